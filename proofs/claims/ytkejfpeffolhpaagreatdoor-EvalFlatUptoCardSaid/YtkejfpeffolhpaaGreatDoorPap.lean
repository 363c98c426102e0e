/-
  evalFlat: closed facts of the row, each by itself.
-/
import Derived.Test.YtkejfpeffolhpaaGreatDoorPam
import Derived.Test.YtkejfpeffolhpaaGreatDoorPan
import Derived.Test.YtkejfpeffolhpaaGreatDoorPao
set_option linter.all false
namespace Go.Proofs.YtkejfpeffolhpaaGreatDoor.evalFlat
open Go.ChangeShapes Go.WideShapes Go.RowKit
set_option maxRecDepth 100000 in
theorem Ad7:joinedFacts pB fB UY spB OZ=true:=(DX (DX (DX (DX (DX (DX (DX (DX (DX (DX (DX (DX (DX (DX (DX (DX (DX (DX (DX (DX (DX (DX (DX (DX (DX (DX (DX (DX (DX (DX (DX (by as_aux_lemma=>kernel_rfl) k1) k2) k3) (by as_aux_lemma=>kernel_rfl)) (by as_aux_lemma=>kernel_rfl)) (by as_aux_lemma=>kernel_rfl)) (by as_aux_lemma=>kernel_rfl)) (by as_aux_lemma=>kernel_rfl)) k9) k10) kB) k12) k13) k14) k15) k16) k17) (by as_aux_lemma=>kernel_rfl)) (by as_aux_lemma=>kernel_rfl)) (by as_aux_lemma=>kernel_rfl)) (by as_aux_lemma=>kernel_rfl)) k22) (by as_aux_lemma=>kernel_rfl)) k24) k25) k26) k27) (by as_aux_lemma=>kernel_rfl)) (by as_aux_lemma=>kernel_rfl)) k30) k31)
end Go.Proofs.YtkejfpeffolhpaaGreatDoor.evalFlat
