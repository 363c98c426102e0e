/-
  DERIVED. GIVEN WITH THE SEED: THE CARDS: each row of YtalbicndcfmbnaaGreatDoorRows.lean that lists a variable, with what it lists TIED to the program's text (the seventh form; the later family's looks); each row that meets fmt, with fmt's text TOLD by the authors' own Lean function (tested against real Go, not proved from fmt's source: count such statements apart). THE CARD IS WHAT COUNTS. Prove the row's statement (the work); the ties are given (YtalbicndcfmbnaaGreatDoorTie.lean); close each card by the builder's one call (the guide's Derived/Test/ToyasCard.lean, 'card_holds'). Laid BY PROGRAM, IN A SANDBOX (cutbox-door.mjs). By AI agents, Wed Nov 11 2026. No macro, syntax, notation, axiom, sorry.
-/
import Derived.Test.YtalbicndcfmbnaaGreatDoorRows
import GoSem.ClaimSeven
namespace Go.Proofs.YtalbicndcfmbnaaGreatDoor
namespace Rows

/-- THE TIED CARD OF 'calquelaw32.EvalParts'. -/
def evalPartsCard : Claim7 := { stood := { row := evalPartsRow, standIns := [], harness := (true, "6322a8086b9e6d0926d8ca0bca902c7cde26e3eee0229819cf7b643bc0eb779e"), looks := true }, kinds := [], alts := [], laidByText := true, laidKinds := [.data, .data, .data, .data, .sentinel, .sentinel, .pinned], laidTests := true, laidLooks := .later }
def EvalPartsCardSaid : Prop := Claim7.holds Tryz.pinned (.plain (OpenSpec.ofChange evalPartsSpec)) evalPartsCard

/-- THE TIED CARD OF 'calquelaw35.MachineForward'. -/
def machineForwardCard : Claim7 := { stood := { row := machineForwardRow, standIns := [], harness := (true, "6322a8086b9e6d0926d8ca0bca902c7cde26e3eee0229819cf7b643bc0eb779e"), looks := true }, kinds := [], alts := [], laidByText := true, laidKinds := [.data, .data, .data, .data, .sentinel, .sentinel, .pinned], laidTests := true, laidLooks := .later }
def MachineForwardCardSaid : Prop := Claim7.holds Tryz.pinned (.plain (OpenSpec.ofChange machineForwardSpec)) machineForwardCard

/-- THE TIED CARD OF 'calquelaw35.MachineUnreached'. -/
def machineUnreachedCard : Claim7 := { stood := { row := machineUnreachedRow, standIns := [], harness := (true, "6322a8086b9e6d0926d8ca0bca902c7cde26e3eee0229819cf7b643bc0eb779e"), looks := true }, kinds := [], alts := [], laidByText := true, laidKinds := [.data, .data, .data, .data, .sentinel, .sentinel, .pinned], laidTests := true, laidLooks := .later }
def MachineUnreachedCardSaid : Prop := Claim7.holds Tryz.pinned (.plain (OpenSpec.ofChange machineUnreachedSpec)) machineUnreachedCard

/-- THE TIED CARD OF 'calquelaw35.MachineNames'. -/
def machineNamesCard : Claim7 := { stood := { row := machineNamesRow, standIns := [], harness := (true, "6322a8086b9e6d0926d8ca0bca902c7cde26e3eee0229819cf7b643bc0eb779e"), looks := true }, kinds := [], alts := [], laidByText := true, laidKinds := [.data, .data, .data, .data, .sentinel, .sentinel, .pinned], laidTests := true, laidLooks := .later }
def MachineNamesCardSaid : Prop := Claim7.holds Tryz.pinned (.plain (OpenSpec.ofChange machineNamesSpec)) machineNamesCard

/-- THE TIED CARD OF 'calquelaw32.EvalValues'. -/
def evalValuesCard : Claim7 := { stood := { row := evalValuesRow, standIns := [], harness := (true, "6322a8086b9e6d0926d8ca0bca902c7cde26e3eee0229819cf7b643bc0eb779e"), looks := true }, kinds := [], alts := [], laidByText := true, laidKinds := [.data, .data, .data, .data, .sentinel, .sentinel, .pinned], laidTests := true, laidLooks := .later }
def EvalValuesCardSaid : Prop := Claim7.holds Tryz.pinned (.plain (OpenSpec.ofChange evalValuesSpec)) evalValuesCard

/-- THE SECOND FORM's CARD OF 'calquelaw32.EvalParts'. -/
def evalPartsUptoCard : Claim7 := { stood := { row := evalPartsUptoRow, standIns := [], harness := (true, "6322a8086b9e6d0926d8ca0bca902c7cde26e3eee0229819cf7b643bc0eb779e"), looks := true }, kinds := [], alts := [], laidByText := true, laidKinds := [.data, .data, .data, .data, .sentinel, .sentinel, .pinned], laidTests := true, laidLooks := .later }
def EvalPartsUptoCardSaid : Prop := Claim7.holds Tryz.pinned (.plain (OpenSpec.upto evalPartsSpec)) evalPartsUptoCard

/-- THE SECOND FORM's CARD OF 'calquelaw35.MachineForward'. -/
def machineForwardUptoCard : Claim7 := { stood := { row := machineForwardUptoRow, standIns := [], harness := (true, "6322a8086b9e6d0926d8ca0bca902c7cde26e3eee0229819cf7b643bc0eb779e"), looks := true }, kinds := [], alts := [], laidByText := true, laidKinds := [.data, .data, .data, .data, .sentinel, .sentinel, .pinned], laidTests := true, laidLooks := .later }
def MachineForwardUptoCardSaid : Prop := Claim7.holds Tryz.pinned (.plain (OpenSpec.upto machineForwardSpec)) machineForwardUptoCard

/-- THE SECOND FORM's CARD OF 'calquelaw35.MachineUnreached'. -/
def machineUnreachedUptoCard : Claim7 := { stood := { row := machineUnreachedUptoRow, standIns := [], harness := (true, "6322a8086b9e6d0926d8ca0bca902c7cde26e3eee0229819cf7b643bc0eb779e"), looks := true }, kinds := [], alts := [], laidByText := true, laidKinds := [.data, .data, .data, .data, .sentinel, .sentinel, .pinned], laidTests := true, laidLooks := .later }
def MachineUnreachedUptoCardSaid : Prop := Claim7.holds Tryz.pinned (.plain (OpenSpec.upto machineUnreachedSpec)) machineUnreachedUptoCard

/-- THE SECOND FORM's CARD OF 'calquelaw35.MachineNames'. -/
def machineNamesUptoCard : Claim7 := { stood := { row := machineNamesUptoRow, standIns := [], harness := (true, "6322a8086b9e6d0926d8ca0bca902c7cde26e3eee0229819cf7b643bc0eb779e"), looks := true }, kinds := [], alts := [], laidByText := true, laidKinds := [.data, .data, .data, .data, .sentinel, .sentinel, .pinned], laidTests := true, laidLooks := .later }
def MachineNamesUptoCardSaid : Prop := Claim7.holds Tryz.pinned (.plain (OpenSpec.upto machineNamesSpec)) machineNamesUptoCard

/-- THE SECOND FORM's CARD OF 'calquelaw32.EvalValues'. -/
def evalValuesUptoCard : Claim7 := { stood := { row := evalValuesUptoRow, standIns := [], harness := (true, "6322a8086b9e6d0926d8ca0bca902c7cde26e3eee0229819cf7b643bc0eb779e"), looks := true }, kinds := [], alts := [], laidByText := true, laidKinds := [.data, .data, .data, .data, .sentinel, .sentinel, .pinned], laidTests := true, laidLooks := .later }
def EvalValuesUptoCardSaid : Prop := Claim7.holds Tryz.pinned (.plain (OpenSpec.upto evalValuesSpec)) evalValuesUptoCard
end Rows
end Go.Proofs.YtalbicndcfmbnaaGreatDoor
