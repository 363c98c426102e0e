/-
  MachineUnreached: the step of the second form.
-/
import Derived.Test.YtalbicndcfmbnaaGreatDoorRah
import Derived.Test.YtalbicndcfmbnaaGreatDoorRaj
set_option linter.all false
namespace Go.Proofs.YtalbicndcfmbnaaGreatDoor.machineUnreached
open Go.ChangeShapes Go.WideShapes Go.RowKit
set_option maxRecDepth 100000 in
theorem SJ(e:Os)(a:e.Started)(H:Type)(enc:TypeId×Value->H)(F:Stop.Interp) :
  ReturnsInHanded {} Tryz.checked e 5 .any ((Rows.OpenSpec.upto Rows.machineUnreachedSpec).preRow enc Tryz.prog Tryz.f5 Rows.machineUnreachedUptoRow.domain false Rows.machineUnreachedUptoRow.laid) (((Rows.OpenSpec.upto Rows.machineUnreachedSpec).at F).post enc Tryz.prog Tryz.f5 false true false false):=by
 obtain⟨f,n⟩:=oF e enc;refine returnsInHanded_of_row (C:=Tryz.checked) (s:=Rows.OpenSpec.upto Rows.machineUnreachedSpec) own a (by kernel_rfl) Tryz.func5
  (witness_row_at (enc:=enc) (C:=Tryz.checked) false (World.laidAll Tryz.prog e Rows.machineUnreachedUptoRow.laid) Wk (World.laidAll_os _ _ _) (by kernel_rfl) (by kernel_rfl) (by kernel_rfl)
   (OpenSpec.preRow_of_cond 8 n (by kernel_rfl) (λk m=>by cases m;kernel_rfl) (by kernel_rfl) (vT e))) ?_
 intro W base args h i b d l _ c _ j g _;exact IP H enc W base args h i b d l j g (c _ rfl)
end Go.Proofs.YtalbicndcfmbnaaGreatDoor.machineUnreached
