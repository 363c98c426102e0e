/-
  evalValues: closed facts of the row, each by itself.
-/
import Derived.Test.YtalbicndcfmbnaaGreatDoorPam
import Derived.Test.YtalbicndcfmbnaaGreatDoorPan
import Derived.Test.YtalbicndcfmbnaaGreatDoorPao
set_option linter.unusedVariables false
namespace Go.Proofs.YtalbicndcfmbnaaGreatDoor.evalValues
open Go.ChangeShapes Go.WideShapes Go.RowKit
set_option maxRecDepth 100000 in
theorem Acv:joinedFacts pB fB SX spB NA=true:=(Du (Du (Du (Du (Du (Du (Du (Du (Du (Du (Du (Du (Du (Du (Du (Du (Du (Du (Du (Du (Du (Du (Du (Du (Du (Du (Du (Du (Du (Du (Du (by as_aux_lemma=>kernel_rfl) k1) k2) k3) (by as_aux_lemma=>kernel_rfl)) (by as_aux_lemma=>kernel_rfl)) (by as_aux_lemma=>kernel_rfl)) (by as_aux_lemma=>kernel_rfl)) (by as_aux_lemma=>kernel_rfl)) k9) xV) UF) k12) k13) k14) k15) k16) k17) (by as_aux_lemma=>kernel_rfl)) (by as_aux_lemma=>kernel_rfl)) (by as_aux_lemma=>kernel_rfl)) (by as_aux_lemma=>kernel_rfl)) k22) (by as_aux_lemma=>kernel_rfl)) k24) k25) k26) k27) (by as_aux_lemma=>kernel_rfl)) (by as_aux_lemma=>kernel_rfl)) k30) k31)
end Go.Proofs.YtalbicndcfmbnaaGreatDoor.evalValues
