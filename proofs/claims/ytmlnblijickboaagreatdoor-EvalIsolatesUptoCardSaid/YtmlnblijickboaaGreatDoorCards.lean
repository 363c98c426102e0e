/-
  DERIVED. GIVEN WITH THE SEED: THE CARDS: each row of YtmlnblijickboaaGreatDoorRows.lean that lists a variable, with what it lists TIED to the program's text (the seventh form; the later family's looks); each row that meets fmt, with fmt's text TOLD by the authors' own Lean function (tested against real Go, not proved from fmt's source: count such statements apart). THE CARD IS WHAT COUNTS. Prove the row's statement (the work); the ties are given (YtmlnblijickboaaGreatDoorTie.lean); close each card by the builder's one call (the guide's Derived/Test/ToyasCard.lean, 'card_holds'). Laid BY PROGRAM, IN A SANDBOX (cutbox-door.mjs). By AI agents, Wed Nov 11 2026. No macro, syntax, notation, axiom, sorry.
-/
import Derived.Test.YtmlnblijickboaaGreatDoorRows
import GoSem.ClaimSeven
namespace Go.Proofs.YtmlnblijickboaaGreatDoor
namespace Rows

/-- THE TIED CARD OF 'calquelaw32.EvalIsolates'. -/
def evalIsolatesCard : Claim7 := { stood := { row := evalIsolatesRow, standIns := [], harness := (true, "f22a267c76e09011c9fc4a699f7accd979e6c2382db8ef05b290ba86ce05d28a"), looks := true }, kinds := [], alts := [], laidByText := true, laidKinds := [.data, .data, .data, .data, .sentinel, .sentinel, .pinned], laidTests := true, laidLooks := .later }
def EvalIsolatesCardSaid : Prop := Claim7.holds Tryz.pinned (.plain (OpenSpec.ofChange evalIsolatesSpec)) evalIsolatesCard

/-- THE SECOND FORM's CARD OF 'calquelaw32.EvalIsolates'. -/
def evalIsolatesUptoCard : Claim7 := { stood := { row := evalIsolatesUptoRow, standIns := [], harness := (true, "f22a267c76e09011c9fc4a699f7accd979e6c2382db8ef05b290ba86ce05d28a"), looks := true }, kinds := [], alts := [], laidByText := true, laidKinds := [.data, .data, .data, .data, .sentinel, .sentinel, .pinned], laidTests := true, laidLooks := .later }
def EvalIsolatesUptoCardSaid : Prop := Claim7.holds Tryz.pinned (.plain (OpenSpec.upto evalIsolatesSpec)) evalIsolatesUptoCard
end Rows
end Go.Proofs.YtmlnblijickboaaGreatDoor
