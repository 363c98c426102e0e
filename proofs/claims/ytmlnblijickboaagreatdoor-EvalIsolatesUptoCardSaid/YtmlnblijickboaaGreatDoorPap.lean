/-
  evalIsolates: closed facts of the row, each by itself.
-/
import Derived.Test.YtmlnblijickboaaGreatDoorPam
import Derived.Test.YtmlnblijickboaaGreatDoorPan
import Derived.Test.YtmlnblijickboaaGreatDoorPao
set_option linter.all false
namespace Go.Proofs.YtmlnblijickboaaGreatDoor.evalIsolates
open Go.ChangeShapes Go.WideShapes Go.RowKit
set_option maxRecDepth 100000 in
theorem zZ:joinedFacts pB fB fnB spB rwB=true:=(D6 (D6 (D6 (D6 (D6 (D6 (D6 (D6 (D6 (D6 (D6 (D6 (D6 (D6 (D6 (D6 (D6 (D6 (D6 (D6 (D6 (D6 (D6 (D6 (D6 (D6 (D6 (D6 (D6 (D6 (D6 (by as_aux_lemma=>kernel_rfl) k1) k2) k3) (by as_aux_lemma=>kernel_rfl)) (by as_aux_lemma=>kernel_rfl)) (by as_aux_lemma=>kernel_rfl)) (by as_aux_lemma=>kernel_rfl)) (by as_aux_lemma=>kernel_rfl)) k9) k10) QA) k12) k13) k14) k15) k16) k17) (by as_aux_lemma=>kernel_rfl)) (by as_aux_lemma=>kernel_rfl)) (by as_aux_lemma=>kernel_rfl)) (by as_aux_lemma=>kernel_rfl)) k22) (by as_aux_lemma=>kernel_rfl)) k24) k25) k26) k27) (by as_aux_lemma=>kernel_rfl)) (by as_aux_lemma=>kernel_rfl)) k30) k31)
end Go.Proofs.YtmlnblijickboaaGreatDoor.evalIsolates
