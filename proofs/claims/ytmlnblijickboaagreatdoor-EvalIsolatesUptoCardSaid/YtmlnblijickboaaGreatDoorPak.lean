/-
  EvalIsolates: the step of the second form.
-/
import Derived.Test.YtmlnblijickboaaGreatDoorPah
import Derived.Test.YtmlnblijickboaaGreatDoorPaj
set_option linter.all false
namespace Go.Proofs.YtmlnblijickboaaGreatDoor.evalIsolates
open Go.ChangeShapes Go.WideShapes Go.RowKit
set_option maxRecDepth 100000 in
theorem Vf(e:Os)(a:e.Started)(H:Type)(enc:TypeId×Value->H)(F:Stop.Interp) :
  ReturnsInHanded {} Tryz.checked e 3 .any ((Rows.OpenSpec.upto Rows.evalIsolatesSpec).preRow enc Tryz.prog Tryz.f3 Rows.evalIsolatesUptoRow.domain false Rows.evalIsolatesUptoRow.laid) (((Rows.OpenSpec.upto Rows.evalIsolatesSpec).at F).post enc Tryz.prog Tryz.f3 false true false false):=by
 obtain⟨f,n⟩:=rW e enc;refine returnsInHanded_of_row (C:=Tryz.checked) (s:=Rows.OpenSpec.upto Rows.evalIsolatesSpec) own a (by kernel_rfl) Tryz.func3
  (witness_row_at (enc:=enc) (C:=Tryz.checked) false (World.laidAll Tryz.prog e Rows.evalIsolatesUptoRow.laid) wargs (World.laidAll_os _ _ _) (by kernel_rfl) (by kernel_rfl) (by kernel_rfl)
   (OpenSpec.preRow_of_cond 8 n (by kernel_rfl) (λk m=>by cases m;kernel_rfl) (by kernel_rfl) (dT e))) ?_
 intro W base args h i b d l _ c _ j g _;exact Kg H enc W base args h i b d l j g (c _ rfl)
end Go.Proofs.YtmlnblijickboaaGreatDoor.evalIsolates
