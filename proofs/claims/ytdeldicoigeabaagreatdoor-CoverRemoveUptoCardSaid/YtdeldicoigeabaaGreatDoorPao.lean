/-
  coverRemove: closed facts of the row, each by itself.
-/
import Derived.Test.YtdeldicoigeabaaGreatDoorPal
import Derived.Test.YtdeldicoigeabaaGreatDoorPam
import Derived.Test.YtdeldicoigeabaaGreatDoorPan
set_option linter.all false
namespace Go.Proofs.YtdeldicoigeabaaGreatDoor.coverRemove
open Go.ChangeShapes Go.WideShapes Go.RowKit
set_option maxRecDepth 100000 in
theorem Aqj:joinedFacts pB fB SM BV Ng=true:=(DK (DK (DK (DK (DK (DK (DK (DK (DK (DK (DK (DK (DK (DK (DK (DK (DK (DK (DK (DK (DK (DK (DK (DK (DK (DK (DK (DK (DK (DK (DK (by as_aux_lemma=>kernel_rfl) k1) k2) k3) (by as_aux_lemma=>kernel_rfl)) (by as_aux_lemma=>kernel_rfl)) (by as_aux_lemma=>kernel_rfl)) (by as_aux_lemma=>kernel_rfl)) (by as_aux_lemma=>kernel_rfl)) k9) wC) OV) Ij) IX) KH) IP) HR) IL) (by as_aux_lemma=>kernel_rfl)) (by as_aux_lemma=>kernel_rfl)) (by as_aux_lemma=>kernel_rfl)) (by as_aux_lemma=>kernel_rfl)) JO) (by as_aux_lemma=>kernel_rfl)) IJ) HT) GH) Kg) (by as_aux_lemma=>kernel_rfl)) (by as_aux_lemma=>kernel_rfl)) Ik) JB)
end Go.Proofs.YtdeldicoigeabaaGreatDoor.coverRemove
