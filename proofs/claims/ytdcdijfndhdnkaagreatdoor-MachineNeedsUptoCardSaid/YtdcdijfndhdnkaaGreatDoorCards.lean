/-
  DERIVED. GIVEN WITH THE SEED: THE CARDS: each row of YtdcdijfndhdnkaaGreatDoorRows.lean that lists a variable, with what it lists TIED to the program's text (the seventh form; the later family's looks); each row that meets fmt, with fmt's text TOLD by the authors' own Lean function (tested against real Go, not proved from fmt's source: count such statements apart). THE CARD IS WHAT COUNTS. Prove the row's statement (the work); the ties are given (YtdcdijfndhdnkaaGreatDoorTie.lean); close each card by the builder's one call (the guide's Derived/Test/ToyasCard.lean, 'card_holds'). Laid BY PROGRAM, IN A SANDBOX (cutbox-door.mjs). By AI agents, Wed Nov 11 2026. No macro, syntax, notation, axiom, sorry.
-/
import Derived.Test.YtdcdijfndhdnkaaGreatDoorRows
import GoSem.ClaimSeven
namespace Go.Proofs.YtdcdijfndhdnkaaGreatDoor
namespace Rows

/-- THE TIED CARD OF 'calquelaw35.MachineNeeds'. -/
def machineNeedsCard : Claim7 := { stood := { row := machineNeedsRow, standIns := [], harness := (true, "6b66866b22b7fa013e7fa756209eda7a5bfcb427e314b010ca6067c6b83d5d6e"), looks := true }, kinds := [], alts := [], laidByText := true, laidKinds := [.data, .data, .data, .data, .sentinel, .sentinel, .pinned], laidTests := true, laidLooks := .later }
def MachineNeedsCardSaid : Prop := Claim7.holds Tryz.pinned (.plain (OpenSpec.ofChange machineNeedsSpec)) machineNeedsCard

/-- THE SECOND FORM's CARD OF 'calquelaw35.MachineNeeds'. -/
def machineNeedsUptoCard : Claim7 := { stood := { row := machineNeedsUptoRow, standIns := [], harness := (true, "6b66866b22b7fa013e7fa756209eda7a5bfcb427e314b010ca6067c6b83d5d6e"), looks := true }, kinds := [], alts := [], laidByText := true, laidKinds := [.data, .data, .data, .data, .sentinel, .sentinel, .pinned], laidTests := true, laidLooks := .later }
def MachineNeedsUptoCardSaid : Prop := Claim7.holds Tryz.pinned (.plain (OpenSpec.upto machineNeedsSpec)) machineNeedsUptoCard
end Rows
end Go.Proofs.YtdcdijfndhdnkaaGreatDoor
