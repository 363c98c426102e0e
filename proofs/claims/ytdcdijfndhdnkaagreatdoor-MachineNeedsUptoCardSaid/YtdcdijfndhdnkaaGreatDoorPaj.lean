/-
  MachineNeeds: the step of the second form.
-/
import Derived.Test.YtdcdijfndhdnkaaGreatDoorPag
import Derived.Test.YtdcdijfndhdnkaaGreatDoorPai
set_option linter.unusedVariables false
namespace Go.Proofs.YtdcdijfndhdnkaaGreatDoor.machineNeeds
open Go.ChangeShapes Go.WideShapes Go.RowKit
set_option maxRecDepth 100000 in
theorem liftedUpto (os:Os) (started:os.Started) (H:Type) (enc:TypeId × Value->H) (F:Stop.Interp) :
  ReturnsInHanded {} Tryz.checked os 3 .any ((Rows.OpenSpec.upto Rows.machineNeedsSpec).preRow enc Tryz.prog Tryz.f3 Rows.machineNeedsUptoRow.domain false Rows.machineNeedsUptoRow.laid) (((Rows.OpenSpec.upto Rows.machineNeedsSpec).at F).post enc Tryz.prog Tryz.f3 false true false false):=by
 obtain ⟨places,hx⟩:=reads os enc
 refine returnsInHanded_of_row (C:=Tryz.checked) (s:=Rows.OpenSpec.upto Rows.machineNeedsSpec) own started (by kernel_rfl) Tryz.func3
  (witness_row_at (enc:=enc) (C:=Tryz.checked) false (World.laidAll Tryz.prog os Rows.machineNeedsUptoRow.laid) wargs (World.laidAll_os _ _ _) (by kernel_rfl) (by kernel_rfl) (by kernel_rfl)
   (OpenSpec.preRow_of_cond 8 hx (by kernel_rfl) (fun k hk=>by cases hk;kernel_rfl) (by kernel_rfl) (laid_met os))) ?_
 intro W base args ds gs before hval hW _ hcond _ hL _ _
 exact contract H enc W base args ds gs before hval hW hL (hcond _ rfl)
end Go.Proofs.YtdcdijfndhdnkaaGreatDoor.machineNeeds
