/-
  MachineNames: the step of the second form.
-/
import Derived.Test.YtalbicndcfmbnaaGreatDoorSah
import Derived.Test.YtalbicndcfmbnaaGreatDoorSaj
set_option linter.all false
namespace Go.Proofs.YtalbicndcfmbnaaGreatDoor.machineNames
open Go.ChangeShapes Go.WideShapes Go.RowKit
set_option maxRecDepth 100000 in
theorem TL(e:Os)(a:e.Started)(H:Type)(enc:TypeId×Value->H)(F:Stop.Interp) :
  ReturnsInHanded {} Tryz.checked e 6 .any ((Rows.OpenSpec.upto Rows.machineNamesSpec).preRow enc Tryz.prog Tryz.f6 Rows.machineNamesUptoRow.domain false Rows.machineNamesUptoRow.laid) (((Rows.OpenSpec.upto Rows.machineNamesSpec).at F).post enc Tryz.prog Tryz.f6 false true false false):=by
 obtain⟨f,n⟩:=pY e enc;refine returnsInHanded_of_row (C:=Tryz.checked) (s:=Rows.OpenSpec.upto Rows.machineNamesSpec) own a (by kernel_rfl) Tryz.func6
  (witness_row_at (enc:=enc) (C:=Tryz.checked) false (World.laidAll Tryz.prog e Rows.machineNamesUptoRow.laid) Yf (World.laidAll_os _ _ _) (by kernel_rfl) (by kernel_rfl) (by kernel_rfl)
   (OpenSpec.preRow_of_cond 8 n (by kernel_rfl) (λk m=>by cases m;kernel_rfl) (by kernel_rfl) (tR e))) ?_
 intro W base args h i b d l _ c _ j g _;exact J1 H enc W base args h i b d l j g (c _ rfl)
end Go.Proofs.YtalbicndcfmbnaaGreatDoor.machineNames
