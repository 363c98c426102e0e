/-
  DERIVED. GIVEN WITH THE SEED: THE CARDS: each row of YtkeebddaokieiaaGreatDoorRows.lean that lists a variable, with what it lists TIED to the program's text (the seventh form; the later family's looks); each row that meets fmt, with fmt's text TOLD by the authors' own Lean function (tested against real Go, not proved from fmt's source: count such statements apart). THE CARD IS WHAT COUNTS. Prove the row's statement (the work); the ties are given (YtkeebddaokieiaaGreatDoorTie.lean); close each card by the builder's one call (the guide's Derived/Test/ToyasCard.lean, 'card_holds'). Laid BY PROGRAM, IN A SANDBOX (cutbox-door.mjs). By AI agents, Wed Nov 11 2026. No macro, syntax, notation, axiom, sorry.
-/
import Derived.Test.YtkeebddaokieiaaGreatDoorRows
import GoSem.ClaimSeven
namespace Go.Proofs.YtkeebddaokieiaaGreatDoor
namespace Rows

/-- THE TIED CARD OF 'calquelaw29.VariantsFlat'. -/
def variantsFlatCard : Claim7 := { stood := { row := variantsFlatRow, standIns := [], harness := (true, "310914441ef3f3567e9963c00095bf47a2f4bf0227ab80f0977cc6c7e29ea49e"), looks := true }, kinds := [], alts := [], laidByText := true, laidKinds := [.data, .data, .data, .data, .sentinel, .sentinel, .pinned], laidTests := true, laidLooks := .later }
def VariantsFlatCardSaid : Prop := Claim7.holds Tryz.pinned (.plain (OpenSpec.ofChange variantsFlatSpec)) variantsFlatCard

/-- THE TIED CARD OF 'calquelaw29.VariantsPlain'. -/
def variantsPlainCard : Claim7 := { stood := { row := variantsPlainRow, standIns := [], harness := (true, "310914441ef3f3567e9963c00095bf47a2f4bf0227ab80f0977cc6c7e29ea49e"), looks := true }, kinds := [], alts := [], laidByText := true, laidKinds := [.data, .data, .data, .data, .sentinel, .sentinel, .pinned], laidTests := true, laidLooks := .later }
def VariantsPlainCardSaid : Prop := Claim7.holds Tryz.pinned (.plain (OpenSpec.ofChange variantsPlainSpec)) variantsPlainCard

/-- THE TIED CARD OF 'calquelaw29.VariantsSelect'. -/
def variantsSelectCard : Claim7 := { stood := { row := variantsSelectRow, standIns := [], harness := (true, "310914441ef3f3567e9963c00095bf47a2f4bf0227ab80f0977cc6c7e29ea49e"), looks := true }, kinds := [], alts := [], laidByText := true, laidKinds := [.data, .data, .data, .data, .sentinel, .sentinel, .pinned], laidTests := true, laidLooks := .later }
def VariantsSelectCardSaid : Prop := Claim7.holds Tryz.pinned (.plain (OpenSpec.ofChange variantsSelectSpec)) variantsSelectCard

/-- THE TIED CARD OF 'calquelaw29.VariantsBuild'. -/
def variantsBuildCard : Claim7 := { stood := { row := variantsBuildRow, standIns := [], harness := (true, "310914441ef3f3567e9963c00095bf47a2f4bf0227ab80f0977cc6c7e29ea49e"), looks := true }, kinds := [], alts := [], laidByText := true, laidKinds := [.data, .data, .data, .data, .sentinel, .sentinel, .pinned], laidTests := true, laidLooks := .later }
def VariantsBuildCardSaid : Prop := Claim7.holds Tryz.pinned (.plain (OpenSpec.ofChange variantsBuildSpec)) variantsBuildCard

/-- THE TIED CARD OF 'calquelaw29.VariantsInverse'. -/
def variantsInverseCard : Claim7 := { stood := { row := variantsInverseRow, standIns := [], harness := (true, "310914441ef3f3567e9963c00095bf47a2f4bf0227ab80f0977cc6c7e29ea49e"), looks := true }, kinds := [], alts := [], laidByText := true, laidKinds := [.data, .data, .data, .data, .sentinel, .sentinel, .pinned], laidTests := true, laidLooks := .later }
def VariantsInverseCardSaid : Prop := Claim7.holds Tryz.pinned (.plain (OpenSpec.ofChange variantsInverseSpec)) variantsInverseCard

/-- THE TIED CARD OF 'calquelaw29.VariantsReplace'. -/
def variantsReplaceCard : Claim7 := { stood := { row := variantsReplaceRow, standIns := [], harness := (true, "310914441ef3f3567e9963c00095bf47a2f4bf0227ab80f0977cc6c7e29ea49e"), looks := true }, kinds := [], alts := [], laidByText := true, laidKinds := [.data, .data, .data, .data, .sentinel, .sentinel, .pinned], laidTests := true, laidLooks := .later }
def VariantsReplaceCardSaid : Prop := Claim7.holds Tryz.pinned (.plain (OpenSpec.ofChange variantsReplaceSpec)) variantsReplaceCard

/-- THE TIED CARD OF 'calquelaw30.CoverOther'. -/
def coverOtherCard : Claim7 := { stood := { row := coverOtherRow, standIns := [], harness := (true, "310914441ef3f3567e9963c00095bf47a2f4bf0227ab80f0977cc6c7e29ea49e"), looks := true }, kinds := [], alts := [], laidByText := true, laidKinds := [.data, .data, .data, .data, .sentinel, .sentinel, .pinned], laidTests := true, laidLooks := .later }
def CoverOtherCardSaid : Prop := Claim7.holds Tryz.pinned (.plain (OpenSpec.ofChange coverOtherSpec)) coverOtherCard

/-- THE TIED CARD OF 'calquelaw30.CoverRemove'. -/
def coverRemoveCard : Claim7 := { stood := { row := coverRemoveRow, standIns := [], harness := (true, "310914441ef3f3567e9963c00095bf47a2f4bf0227ab80f0977cc6c7e29ea49e"), looks := true }, kinds := [], alts := [], laidByText := true, laidKinds := [.data, .data, .data, .data, .sentinel, .sentinel, .pinned], laidTests := true, laidLooks := .later }
def CoverRemoveCardSaid : Prop := Claim7.holds Tryz.pinned (.plain (OpenSpec.ofChange coverRemoveSpec)) coverRemoveCard

/-- THE TIED CARD OF 'calquelaw29.VariantsOne'. -/
def variantsOneCard : Claim7 := { stood := { row := variantsOneRow, standIns := [], harness := (true, "310914441ef3f3567e9963c00095bf47a2f4bf0227ab80f0977cc6c7e29ea49e"), looks := true }, kinds := [], alts := [], laidByText := true, laidKinds := [.data, .data, .data, .data, .sentinel, .sentinel, .pinned], laidTests := true, laidLooks := .later }
def VariantsOneCardSaid : Prop := Claim7.holds Tryz.pinned (.plain (OpenSpec.ofChange variantsOneSpec)) variantsOneCard

/-- THE TIED CARD OF 'calquelaw30.CoverChosen'. -/
def coverChosenCard : Claim7 := { stood := { row := coverChosenRow, standIns := [], harness := (true, "310914441ef3f3567e9963c00095bf47a2f4bf0227ab80f0977cc6c7e29ea49e"), looks := true }, kinds := [], alts := [], laidByText := true, laidKinds := [.data, .data, .data, .data, .sentinel, .sentinel, .pinned], laidTests := true, laidLooks := .later }
def CoverChosenCardSaid : Prop := Claim7.holds Tryz.pinned (.plain (OpenSpec.ofChange coverChosenSpec)) coverChosenCard

/-- THE SECOND FORM's CARD OF 'calquelaw29.VariantsFlat'. -/
def variantsFlatUptoCard : Claim7 := { stood := { row := variantsFlatUptoRow, standIns := [], harness := (true, "310914441ef3f3567e9963c00095bf47a2f4bf0227ab80f0977cc6c7e29ea49e"), looks := true }, kinds := [], alts := [], laidByText := true, laidKinds := [.data, .data, .data, .data, .sentinel, .sentinel, .pinned], laidTests := true, laidLooks := .later }
def VariantsFlatUptoCardSaid : Prop := Claim7.holds Tryz.pinned (.plain (OpenSpec.upto variantsFlatSpec)) variantsFlatUptoCard

/-- THE SECOND FORM's CARD OF 'calquelaw29.VariantsPlain'. -/
def variantsPlainUptoCard : Claim7 := { stood := { row := variantsPlainUptoRow, standIns := [], harness := (true, "310914441ef3f3567e9963c00095bf47a2f4bf0227ab80f0977cc6c7e29ea49e"), looks := true }, kinds := [], alts := [], laidByText := true, laidKinds := [.data, .data, .data, .data, .sentinel, .sentinel, .pinned], laidTests := true, laidLooks := .later }
def VariantsPlainUptoCardSaid : Prop := Claim7.holds Tryz.pinned (.plain (OpenSpec.upto variantsPlainSpec)) variantsPlainUptoCard

/-- THE SECOND FORM's CARD OF 'calquelaw29.VariantsSelect'. -/
def variantsSelectUptoCard : Claim7 := { stood := { row := variantsSelectUptoRow, standIns := [], harness := (true, "310914441ef3f3567e9963c00095bf47a2f4bf0227ab80f0977cc6c7e29ea49e"), looks := true }, kinds := [], alts := [], laidByText := true, laidKinds := [.data, .data, .data, .data, .sentinel, .sentinel, .pinned], laidTests := true, laidLooks := .later }
def VariantsSelectUptoCardSaid : Prop := Claim7.holds Tryz.pinned (.plain (OpenSpec.upto variantsSelectSpec)) variantsSelectUptoCard

/-- THE SECOND FORM's CARD OF 'calquelaw29.VariantsBuild'. -/
def variantsBuildUptoCard : Claim7 := { stood := { row := variantsBuildUptoRow, standIns := [], harness := (true, "310914441ef3f3567e9963c00095bf47a2f4bf0227ab80f0977cc6c7e29ea49e"), looks := true }, kinds := [], alts := [], laidByText := true, laidKinds := [.data, .data, .data, .data, .sentinel, .sentinel, .pinned], laidTests := true, laidLooks := .later }
def VariantsBuildUptoCardSaid : Prop := Claim7.holds Tryz.pinned (.plain (OpenSpec.upto variantsBuildSpec)) variantsBuildUptoCard

/-- THE SECOND FORM's CARD OF 'calquelaw29.VariantsInverse'. -/
def variantsInverseUptoCard : Claim7 := { stood := { row := variantsInverseUptoRow, standIns := [], harness := (true, "310914441ef3f3567e9963c00095bf47a2f4bf0227ab80f0977cc6c7e29ea49e"), looks := true }, kinds := [], alts := [], laidByText := true, laidKinds := [.data, .data, .data, .data, .sentinel, .sentinel, .pinned], laidTests := true, laidLooks := .later }
def VariantsInverseUptoCardSaid : Prop := Claim7.holds Tryz.pinned (.plain (OpenSpec.upto variantsInverseSpec)) variantsInverseUptoCard

/-- THE SECOND FORM's CARD OF 'calquelaw29.VariantsReplace'. -/
def variantsReplaceUptoCard : Claim7 := { stood := { row := variantsReplaceUptoRow, standIns := [], harness := (true, "310914441ef3f3567e9963c00095bf47a2f4bf0227ab80f0977cc6c7e29ea49e"), looks := true }, kinds := [], alts := [], laidByText := true, laidKinds := [.data, .data, .data, .data, .sentinel, .sentinel, .pinned], laidTests := true, laidLooks := .later }
def VariantsReplaceUptoCardSaid : Prop := Claim7.holds Tryz.pinned (.plain (OpenSpec.upto variantsReplaceSpec)) variantsReplaceUptoCard

/-- THE SECOND FORM's CARD OF 'calquelaw30.CoverOther'. -/
def coverOtherUptoCard : Claim7 := { stood := { row := coverOtherUptoRow, standIns := [], harness := (true, "310914441ef3f3567e9963c00095bf47a2f4bf0227ab80f0977cc6c7e29ea49e"), looks := true }, kinds := [], alts := [], laidByText := true, laidKinds := [.data, .data, .data, .data, .sentinel, .sentinel, .pinned], laidTests := true, laidLooks := .later }
def CoverOtherUptoCardSaid : Prop := Claim7.holds Tryz.pinned (.plain (OpenSpec.upto coverOtherSpec)) coverOtherUptoCard

/-- THE SECOND FORM's CARD OF 'calquelaw30.CoverRemove'. -/
def coverRemoveUptoCard : Claim7 := { stood := { row := coverRemoveUptoRow, standIns := [], harness := (true, "310914441ef3f3567e9963c00095bf47a2f4bf0227ab80f0977cc6c7e29ea49e"), looks := true }, kinds := [], alts := [], laidByText := true, laidKinds := [.data, .data, .data, .data, .sentinel, .sentinel, .pinned], laidTests := true, laidLooks := .later }
def CoverRemoveUptoCardSaid : Prop := Claim7.holds Tryz.pinned (.plain (OpenSpec.upto coverRemoveSpec)) coverRemoveUptoCard

/-- THE SECOND FORM's CARD OF 'calquelaw29.VariantsOne'. -/
def variantsOneUptoCard : Claim7 := { stood := { row := variantsOneUptoRow, standIns := [], harness := (true, "310914441ef3f3567e9963c00095bf47a2f4bf0227ab80f0977cc6c7e29ea49e"), looks := true }, kinds := [], alts := [], laidByText := true, laidKinds := [.data, .data, .data, .data, .sentinel, .sentinel, .pinned], laidTests := true, laidLooks := .later }
def VariantsOneUptoCardSaid : Prop := Claim7.holds Tryz.pinned (.plain (OpenSpec.upto variantsOneSpec)) variantsOneUptoCard

/-- THE SECOND FORM's CARD OF 'calquelaw30.CoverChosen'. -/
def coverChosenUptoCard : Claim7 := { stood := { row := coverChosenUptoRow, standIns := [], harness := (true, "310914441ef3f3567e9963c00095bf47a2f4bf0227ab80f0977cc6c7e29ea49e"), looks := true }, kinds := [], alts := [], laidByText := true, laidKinds := [.data, .data, .data, .data, .sentinel, .sentinel, .pinned], laidTests := true, laidLooks := .later }
def CoverChosenUptoCardSaid : Prop := Claim7.holds Tryz.pinned (.plain (OpenSpec.upto coverChosenSpec)) coverChosenUptoCard
end Rows
end Go.Proofs.YtkeebddaokieiaaGreatDoor
