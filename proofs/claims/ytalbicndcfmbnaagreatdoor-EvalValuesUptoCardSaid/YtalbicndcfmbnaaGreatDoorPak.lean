/-
  EvalValues: the step of the second form.
-/
import Derived.Test.YtalbicndcfmbnaaGreatDoorPah
import Derived.Test.YtalbicndcfmbnaaGreatDoorPaj
set_option linter.unusedVariables false
namespace Go.Proofs.YtalbicndcfmbnaaGreatDoor.evalValues
open Go.ChangeShapes Go.WideShapes Go.RowKit
set_option maxRecDepth 100000 in
theorem U8(e:Os)(a:e.Started)(H:Type)(enc:TypeId×Value->H)(F:Stop.Interp) :
  ReturnsInHanded {} Tryz.checked e 7 .any ((Rows.OpenSpec.upto Rows.evalValuesSpec).preRow enc Tryz.prog Tryz.f7 Rows.evalValuesUptoRow.domain false Rows.evalValuesUptoRow.laid) (((Rows.OpenSpec.upto Rows.evalValuesSpec).at F).post enc Tryz.prog Tryz.f7 false true false false):=by
 obtain⟨f,n⟩:=qP e enc;refine returnsInHanded_of_row (C:=Tryz.checked) (s:=Rows.OpenSpec.upto Rows.evalValuesSpec) own a (by kernel_rfl) Tryz.func7
  (witness_row_at (enc:=enc) (C:=Tryz.checked) false (World.laidAll Tryz.prog e Rows.evalValuesUptoRow.laid) VQ (World.laidAll_os _ _ _) (by kernel_rfl) (by kernel_rfl) (by kernel_rfl)
   (OpenSpec.preRow_of_cond 8 n (by kernel_rfl) (λk m=>by cases m;kernel_rfl) (by kernel_rfl) (oJ e))) ?_
 intro W base args h i b d l _ c _ j g _;exact Ke H enc W base args h i b d l j g (c _ rfl)
end Go.Proofs.YtalbicndcfmbnaaGreatDoor.evalValues
