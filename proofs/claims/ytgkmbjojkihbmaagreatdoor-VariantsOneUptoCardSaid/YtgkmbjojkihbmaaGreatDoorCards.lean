/-
  DERIVED. GIVEN WITH THE SEED: THE CARDS: each row of YtgkmbjojkihbmaaGreatDoorRows.lean that lists a variable, with what it lists TIED to the program's text (the seventh form; the later family's looks); each row that meets fmt, with fmt's text TOLD by the authors' own Lean function (tested against real Go, not proved from fmt's source: count such statements apart). THE CARD IS WHAT COUNTS. Prove the row's statement (the work); the ties are given (YtgkmbjojkihbmaaGreatDoorTie.lean); close each card by the builder's one call (the guide's Derived/Test/ToyasCard.lean, 'card_holds'). Laid BY PROGRAM, IN A SANDBOX (cutbox-door.mjs). By AI agents, Wed Nov 11 2026. No macro, syntax, notation, axiom, sorry.
-/
import Derived.Test.YtgkmbjojkihbmaaGreatDoorRows
import GoSem.ClaimSeven
namespace Go.Proofs.YtgkmbjojkihbmaaGreatDoor
namespace Rows

/-- THE TIED CARD OF 'calquelaw30.CoverOther'. -/
def coverOtherCard : Claim7 := { stood := { row := coverOtherRow, standIns := [], harness := (true, "4a84c9cce407c54bde7034dd4b41ec9f1156e95f918e509358b3cab71c96276b"), looks := true }, kinds := [], alts := [], laidByText := true, laidKinds := [.data, .data, .data, .data, .sentinel, .sentinel, .pinned], laidTests := true, laidLooks := .later }
def CoverOtherCardSaid : Prop := Claim7.holds Tryz.pinned (.plain (OpenSpec.ofChange coverOtherSpec)) coverOtherCard

/-- THE TIED CARD OF 'calquelaw30.CoverRemove'. -/
def coverRemoveCard : Claim7 := { stood := { row := coverRemoveRow, standIns := [], harness := (true, "4a84c9cce407c54bde7034dd4b41ec9f1156e95f918e509358b3cab71c96276b"), looks := true }, kinds := [], alts := [], laidByText := true, laidKinds := [.data, .data, .data, .data, .sentinel, .sentinel, .pinned], laidTests := true, laidLooks := .later }
def CoverRemoveCardSaid : Prop := Claim7.holds Tryz.pinned (.plain (OpenSpec.ofChange coverRemoveSpec)) coverRemoveCard

/-- THE TIED CARD OF 'calquelaw29.VariantsOne'. -/
def variantsOneCard : Claim7 := { stood := { row := variantsOneRow, standIns := [], harness := (true, "4a84c9cce407c54bde7034dd4b41ec9f1156e95f918e509358b3cab71c96276b"), looks := true }, kinds := [], alts := [], laidByText := true, laidKinds := [.data, .data, .data, .data, .sentinel, .sentinel, .pinned], laidTests := true, laidLooks := .later }
def VariantsOneCardSaid : Prop := Claim7.holds Tryz.pinned (.plain (OpenSpec.ofChange variantsOneSpec)) variantsOneCard

/-- THE TIED CARD OF 'calquelaw30.CoverChosen'. -/
def coverChosenCard : Claim7 := { stood := { row := coverChosenRow, standIns := [], harness := (true, "4a84c9cce407c54bde7034dd4b41ec9f1156e95f918e509358b3cab71c96276b"), looks := true }, kinds := [], alts := [], laidByText := true, laidKinds := [.data, .data, .data, .data, .sentinel, .sentinel, .pinned], laidTests := true, laidLooks := .later }
def CoverChosenCardSaid : Prop := Claim7.holds Tryz.pinned (.plain (OpenSpec.ofChange coverChosenSpec)) coverChosenCard

/-- THE SECOND FORM's CARD OF 'calquelaw30.CoverOther'. -/
def coverOtherUptoCard : Claim7 := { stood := { row := coverOtherUptoRow, standIns := [], harness := (true, "4a84c9cce407c54bde7034dd4b41ec9f1156e95f918e509358b3cab71c96276b"), looks := true }, kinds := [], alts := [], laidByText := true, laidKinds := [.data, .data, .data, .data, .sentinel, .sentinel, .pinned], laidTests := true, laidLooks := .later }
def CoverOtherUptoCardSaid : Prop := Claim7.holds Tryz.pinned (.plain (OpenSpec.upto coverOtherSpec)) coverOtherUptoCard

/-- THE SECOND FORM's CARD OF 'calquelaw30.CoverRemove'. -/
def coverRemoveUptoCard : Claim7 := { stood := { row := coverRemoveUptoRow, standIns := [], harness := (true, "4a84c9cce407c54bde7034dd4b41ec9f1156e95f918e509358b3cab71c96276b"), looks := true }, kinds := [], alts := [], laidByText := true, laidKinds := [.data, .data, .data, .data, .sentinel, .sentinel, .pinned], laidTests := true, laidLooks := .later }
def CoverRemoveUptoCardSaid : Prop := Claim7.holds Tryz.pinned (.plain (OpenSpec.upto coverRemoveSpec)) coverRemoveUptoCard

/-- THE SECOND FORM's CARD OF 'calquelaw29.VariantsOne'. -/
def variantsOneUptoCard : Claim7 := { stood := { row := variantsOneUptoRow, standIns := [], harness := (true, "4a84c9cce407c54bde7034dd4b41ec9f1156e95f918e509358b3cab71c96276b"), looks := true }, kinds := [], alts := [], laidByText := true, laidKinds := [.data, .data, .data, .data, .sentinel, .sentinel, .pinned], laidTests := true, laidLooks := .later }
def VariantsOneUptoCardSaid : Prop := Claim7.holds Tryz.pinned (.plain (OpenSpec.upto variantsOneSpec)) variantsOneUptoCard

/-- THE SECOND FORM's CARD OF 'calquelaw30.CoverChosen'. -/
def coverChosenUptoCard : Claim7 := { stood := { row := coverChosenUptoRow, standIns := [], harness := (true, "4a84c9cce407c54bde7034dd4b41ec9f1156e95f918e509358b3cab71c96276b"), looks := true }, kinds := [], alts := [], laidByText := true, laidKinds := [.data, .data, .data, .data, .sentinel, .sentinel, .pinned], laidTests := true, laidLooks := .later }
def CoverChosenUptoCardSaid : Prop := Claim7.holds Tryz.pinned (.plain (OpenSpec.upto coverChosenSpec)) coverChosenUptoCard
end Rows
end Go.Proofs.YtgkmbjojkihbmaaGreatDoor
