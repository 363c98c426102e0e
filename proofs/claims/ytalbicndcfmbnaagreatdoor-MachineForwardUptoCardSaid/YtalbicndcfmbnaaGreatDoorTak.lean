/-
  MachineForward: the step of the second form.
-/
import Derived.Test.YtalbicndcfmbnaaGreatDoorTah
import Derived.Test.YtalbicndcfmbnaaGreatDoorTaj
set_option linter.all false
namespace Go.Proofs.YtalbicndcfmbnaaGreatDoor.machineForward
open Go.ChangeShapes Go.WideShapes Go.RowKit
set_option maxRecDepth 100000 in
theorem SX(e:Os)(a:e.Started)(H:Type)(enc:TypeId×Value->H)(F:Stop.Interp) :
  ReturnsInHanded {} Tryz.checked e 4 .any ((Rows.OpenSpec.upto Rows.machineForwardSpec).preRow enc Tryz.prog Tryz.f4 Rows.machineForwardUptoRow.domain false Rows.machineForwardUptoRow.laid) (((Rows.OpenSpec.upto Rows.machineForwardSpec).at F).post enc Tryz.prog Tryz.f4 false true false false):=by
 obtain⟨f,n⟩:=uW e enc;refine returnsInHanded_of_row (C:=Tryz.checked) (s:=Rows.OpenSpec.upto Rows.machineForwardSpec) own a (by kernel_rfl) Tryz.func4
  (witness_row_at (enc:=enc) (C:=Tryz.checked) false (World.laidAll Tryz.prog e Rows.machineForwardUptoRow.laid) UN (World.laidAll_os _ _ _) (by kernel_rfl) (by kernel_rfl) (by kernel_rfl)
   (OpenSpec.preRow_of_cond 8 n (by kernel_rfl) (λk m=>by cases m;kernel_rfl) (by kernel_rfl) (vC e))) ?_
 intro W base args h i b d l _ c _ j g _;exact IT H enc W base args h i b d l j g (c _ rfl)
end Go.Proofs.YtalbicndcfmbnaaGreatDoor.machineForward
