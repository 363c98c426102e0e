/-
  EvalFlat: the step of the second form.
-/
import Derived.Test.YtkejfpeffolhpaaGreatDoorPah
import Derived.Test.YtkejfpeffolhpaaGreatDoorPaj
set_option linter.all false
namespace Go.Proofs.YtkejfpeffolhpaaGreatDoor.evalFlat
open Go.ChangeShapes Go.WideShapes Go.RowKit
set_option maxRecDepth 100000 in
theorem Wf(e:Os)(a:e.Started)(H:Type)(enc:TypeId×Value->H)(F:Stop.Interp) :
  ReturnsInHanded {} Tryz.checked e 3 .any ((Rows.OpenSpec.upto Rows.evalFlatSpec).preRow enc Tryz.prog Tryz.f3 Rows.evalFlatUptoRow.domain false Rows.evalFlatUptoRow.laid) (((Rows.OpenSpec.upto Rows.evalFlatSpec).at F).post enc Tryz.prog Tryz.f3 false true false false):=by
 obtain⟨f,n⟩:=AaR e enc;refine returnsInHanded_of_row (C:=Tryz.checked) (s:=Rows.OpenSpec.upto Rows.evalFlatSpec) own a (by kernel_rfl) Tryz.func3
  (witness_row_at (enc:=enc) (C:=Tryz.checked) false (World.laidAll Tryz.prog e Rows.evalFlatUptoRow.laid) Xl (World.laidAll_os _ _ _) (by kernel_rfl) (by kernel_rfl) (by kernel_rfl)
   (OpenSpec.preRow_of_cond 8 n (by kernel_rfl) (λk m=>by cases m;kernel_rfl) (by kernel_rfl) (jH e))) ?_
 intro W base args h i b d l _ c _ j g _;exact Lo H enc W base args h i b d l j g (c _ rfl)
end Go.Proofs.YtkejfpeffolhpaaGreatDoor.evalFlat
