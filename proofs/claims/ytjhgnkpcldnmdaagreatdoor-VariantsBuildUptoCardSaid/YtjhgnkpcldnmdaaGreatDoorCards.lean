/-
  DERIVED. GIVEN WITH THE SEED: THE CARDS: each row of YtjhgnkpcldnmdaaGreatDoorRows.lean that lists a variable, with what it lists TIED to the program's text (the seventh form; the later family's looks); each row that meets fmt, with fmt's text TOLD by the authors' own Lean function (tested against real Go, not proved from fmt's source: count such statements apart). THE CARD IS WHAT COUNTS. Prove the row's statement (the work); the ties are given (YtjhgnkpcldnmdaaGreatDoorTie.lean); close each card by the builder's one call (the guide's Derived/Test/ToyasCard.lean, 'card_holds'). Laid BY PROGRAM, IN A SANDBOX (cutbox-door.mjs). By AI agents, Wed Nov 11 2026. No macro, syntax, notation, axiom, sorry.
-/
import Derived.Test.YtjhgnkpcldnmdaaGreatDoorRows
import GoSem.ClaimSeven
namespace Go.Proofs.YtjhgnkpcldnmdaaGreatDoor
namespace Rows

/-- THE TIED CARD OF 'calquelaw29.VariantsPlain'. -/
def variantsPlainCard : Claim7 := { stood := { row := variantsPlainRow, standIns := [], harness := (true, "4d9251a275165726684a450d570d20d71af5b70719506e22deca58642225be9d"), looks := true }, kinds := [], alts := [], laidByText := true, laidKinds := [.data, .data, .data, .data, .sentinel, .sentinel, .pinned], laidTests := true, laidLooks := .later }
def VariantsPlainCardSaid : Prop := Claim7.holds Tryz.pinned (.plain (OpenSpec.ofChange variantsPlainSpec)) variantsPlainCard

/-- THE TIED CARD OF 'calquelaw29.VariantsSelect'. -/
def variantsSelectCard : Claim7 := { stood := { row := variantsSelectRow, standIns := [], harness := (true, "4d9251a275165726684a450d570d20d71af5b70719506e22deca58642225be9d"), looks := true }, kinds := [], alts := [], laidByText := true, laidKinds := [.data, .data, .data, .data, .sentinel, .sentinel, .pinned], laidTests := true, laidLooks := .later }
def VariantsSelectCardSaid : Prop := Claim7.holds Tryz.pinned (.plain (OpenSpec.ofChange variantsSelectSpec)) variantsSelectCard

/-- THE TIED CARD OF 'calquelaw29.VariantsBuild'. -/
def variantsBuildCard : Claim7 := { stood := { row := variantsBuildRow, standIns := [], harness := (true, "4d9251a275165726684a450d570d20d71af5b70719506e22deca58642225be9d"), looks := true }, kinds := [], alts := [], laidByText := true, laidKinds := [.data, .data, .data, .data, .sentinel, .sentinel, .pinned], laidTests := true, laidLooks := .later }
def VariantsBuildCardSaid : Prop := Claim7.holds Tryz.pinned (.plain (OpenSpec.ofChange variantsBuildSpec)) variantsBuildCard

/-- THE TIED CARD OF 'calquelaw29.VariantsInverse'. -/
def variantsInverseCard : Claim7 := { stood := { row := variantsInverseRow, standIns := [], harness := (true, "4d9251a275165726684a450d570d20d71af5b70719506e22deca58642225be9d"), looks := true }, kinds := [], alts := [], laidByText := true, laidKinds := [.data, .data, .data, .data, .sentinel, .sentinel, .pinned], laidTests := true, laidLooks := .later }
def VariantsInverseCardSaid : Prop := Claim7.holds Tryz.pinned (.plain (OpenSpec.ofChange variantsInverseSpec)) variantsInverseCard

/-- THE TIED CARD OF 'calquelaw29.VariantsReplace'. -/
def variantsReplaceCard : Claim7 := { stood := { row := variantsReplaceRow, standIns := [], harness := (true, "4d9251a275165726684a450d570d20d71af5b70719506e22deca58642225be9d"), looks := true }, kinds := [], alts := [], laidByText := true, laidKinds := [.data, .data, .data, .data, .sentinel, .sentinel, .pinned], laidTests := true, laidLooks := .later }
def VariantsReplaceCardSaid : Prop := Claim7.holds Tryz.pinned (.plain (OpenSpec.ofChange variantsReplaceSpec)) variantsReplaceCard

/-- THE SECOND FORM's CARD OF 'calquelaw29.VariantsPlain'. -/
def variantsPlainUptoCard : Claim7 := { stood := { row := variantsPlainUptoRow, standIns := [], harness := (true, "4d9251a275165726684a450d570d20d71af5b70719506e22deca58642225be9d"), looks := true }, kinds := [], alts := [], laidByText := true, laidKinds := [.data, .data, .data, .data, .sentinel, .sentinel, .pinned], laidTests := true, laidLooks := .later }
def VariantsPlainUptoCardSaid : Prop := Claim7.holds Tryz.pinned (.plain (OpenSpec.upto variantsPlainSpec)) variantsPlainUptoCard

/-- THE SECOND FORM's CARD OF 'calquelaw29.VariantsSelect'. -/
def variantsSelectUptoCard : Claim7 := { stood := { row := variantsSelectUptoRow, standIns := [], harness := (true, "4d9251a275165726684a450d570d20d71af5b70719506e22deca58642225be9d"), looks := true }, kinds := [], alts := [], laidByText := true, laidKinds := [.data, .data, .data, .data, .sentinel, .sentinel, .pinned], laidTests := true, laidLooks := .later }
def VariantsSelectUptoCardSaid : Prop := Claim7.holds Tryz.pinned (.plain (OpenSpec.upto variantsSelectSpec)) variantsSelectUptoCard

/-- THE SECOND FORM's CARD OF 'calquelaw29.VariantsBuild'. -/
def variantsBuildUptoCard : Claim7 := { stood := { row := variantsBuildUptoRow, standIns := [], harness := (true, "4d9251a275165726684a450d570d20d71af5b70719506e22deca58642225be9d"), looks := true }, kinds := [], alts := [], laidByText := true, laidKinds := [.data, .data, .data, .data, .sentinel, .sentinel, .pinned], laidTests := true, laidLooks := .later }
def VariantsBuildUptoCardSaid : Prop := Claim7.holds Tryz.pinned (.plain (OpenSpec.upto variantsBuildSpec)) variantsBuildUptoCard

/-- THE SECOND FORM's CARD OF 'calquelaw29.VariantsInverse'. -/
def variantsInverseUptoCard : Claim7 := { stood := { row := variantsInverseUptoRow, standIns := [], harness := (true, "4d9251a275165726684a450d570d20d71af5b70719506e22deca58642225be9d"), looks := true }, kinds := [], alts := [], laidByText := true, laidKinds := [.data, .data, .data, .data, .sentinel, .sentinel, .pinned], laidTests := true, laidLooks := .later }
def VariantsInverseUptoCardSaid : Prop := Claim7.holds Tryz.pinned (.plain (OpenSpec.upto variantsInverseSpec)) variantsInverseUptoCard

/-- THE SECOND FORM's CARD OF 'calquelaw29.VariantsReplace'. -/
def variantsReplaceUptoCard : Claim7 := { stood := { row := variantsReplaceUptoRow, standIns := [], harness := (true, "4d9251a275165726684a450d570d20d71af5b70719506e22deca58642225be9d"), looks := true }, kinds := [], alts := [], laidByText := true, laidKinds := [.data, .data, .data, .data, .sentinel, .sentinel, .pinned], laidTests := true, laidLooks := .later }
def VariantsReplaceUptoCardSaid : Prop := Claim7.holds Tryz.pinned (.plain (OpenSpec.upto variantsReplaceSpec)) variantsReplaceUptoCard
end Rows
end Go.Proofs.YtjhgnkpcldnmdaaGreatDoor
