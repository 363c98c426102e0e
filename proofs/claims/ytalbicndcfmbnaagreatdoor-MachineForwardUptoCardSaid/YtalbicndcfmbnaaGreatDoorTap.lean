/-
  machineForward: closed facts of the row, each by itself.
-/
import Derived.Test.YtalbicndcfmbnaaGreatDoorTam
import Derived.Test.YtalbicndcfmbnaaGreatDoorTan
import Derived.Test.YtalbicndcfmbnaaGreatDoorTao
set_option linter.all false
namespace Go.Proofs.YtalbicndcfmbnaaGreatDoor.machineForward
open Go.ChangeShapes Go.WideShapes Go.RowKit
set_option maxRecDepth 100000 in
theorem Abj:joinedFacts pB fB Sp spB MI=true:=(CP (CP (CP (CP (CP (CP (CP (CP (CP (CP (CP (CP (CP (CP (CP (CP (CP (CP (CP (CP (CP (CP (CP (CP (CP (CP (CP (CP (CP (CP (CP (by as_aux_lemma=>kernel_rfl) k1) k2) k3) (by as_aux_lemma=>kernel_rfl)) (by as_aux_lemma=>kernel_rfl)) (by as_aux_lemma=>kernel_rfl)) (by as_aux_lemma=>kernel_rfl)) (by as_aux_lemma=>kernel_rfl)) k9) k10) k11) k12) k13) k14) k15) k16) k17) (by as_aux_lemma=>kernel_rfl)) (by as_aux_lemma=>kernel_rfl)) (by as_aux_lemma=>kernel_rfl)) (by as_aux_lemma=>kernel_rfl)) k22) (by as_aux_lemma=>kernel_rfl)) k24) k25) k26) k27) (by as_aux_lemma=>kernel_rfl)) (by as_aux_lemma=>kernel_rfl)) k30) k31)
end Go.Proofs.YtalbicndcfmbnaaGreatDoor.machineForward
