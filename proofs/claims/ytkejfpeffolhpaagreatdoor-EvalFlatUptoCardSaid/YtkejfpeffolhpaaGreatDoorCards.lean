/-
  DERIVED. GIVEN WITH THE SEED: THE CARDS: each row of YtkejfpeffolhpaaGreatDoorRows.lean that lists a variable, with what it lists TIED to the program's text (the seventh form; the later family's looks); each row that meets fmt, with fmt's text TOLD by the authors' own Lean function (tested against real Go, not proved from fmt's source: count such statements apart). THE CARD IS WHAT COUNTS. Prove the row's statement (the work); the ties are given (YtkejfpeffolhpaaGreatDoorTie.lean); close each card by the builder's one call (the guide's Derived/Test/ToyasCard.lean, 'card_holds'). Laid BY PROGRAM, IN A SANDBOX (cutbox-door.mjs). By AI agents, Wed Nov 11 2026. No macro, syntax, notation, axiom, sorry.
-/
import Derived.Test.YtkejfpeffolhpaaGreatDoorRows
import GoSem.ClaimSeven
namespace Go.Proofs.YtkejfpeffolhpaaGreatDoor
namespace Rows

/-- THE TIED CARD OF 'calquelaw32.EvalFlat'. -/
def evalFlatCard : Claim7 := { stood := { row := evalFlatRow, standIns := [], harness := (true, "3a477e4e20734c1ed5847367a8966401ae57aa0cde73dd1d76373763a09b28de"), looks := true }, kinds := [], alts := [], laidByText := true, laidKinds := [.data, .data, .data, .data, .sentinel, .sentinel, .pinned], laidTests := true, laidLooks := .later }
def EvalFlatCardSaid : Prop := Claim7.holds Tryz.pinned (.plain (OpenSpec.ofChange evalFlatSpec)) evalFlatCard

/-- THE SECOND FORM's CARD OF 'calquelaw32.EvalFlat'. -/
def evalFlatUptoCard : Claim7 := { stood := { row := evalFlatUptoRow, standIns := [], harness := (true, "3a477e4e20734c1ed5847367a8966401ae57aa0cde73dd1d76373763a09b28de"), looks := true }, kinds := [], alts := [], laidByText := true, laidKinds := [.data, .data, .data, .data, .sentinel, .sentinel, .pinned], laidTests := true, laidLooks := .later }
def EvalFlatUptoCardSaid : Prop := Claim7.holds Tryz.pinned (.plain (OpenSpec.upto evalFlatSpec)) evalFlatUptoCard
end Rows
end Go.Proofs.YtkejfpeffolhpaaGreatDoor
