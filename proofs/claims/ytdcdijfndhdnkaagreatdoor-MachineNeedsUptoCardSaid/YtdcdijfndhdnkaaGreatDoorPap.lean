/-
  MachineNeeds, for inputs of a bulk of at most 2^20: the row's statement.
-/
import Derived.Test.YtdcdijfndhdnkaaGreatDoorPaj
import Derived.Test.YtdcdijfndhdnkaaGreatDoorPao
set_option linter.unusedVariables false
namespace Go.Proofs.YtdcdijfndhdnkaaGreatDoor.machineNeeds
open Go.ChangeShapes Go.WideShapes Go.RowKit
set_option maxRecDepth 100000 in
theorem instB:fnB.isInstance pB rwB.origin rwB.targs:=of_decide_eq_true (by kernel_rfl)
set_option maxRecDepth 100000 in
theorem wrapB:fnB.isWrapper pB rwB.wrapper rwB.mainSum:=by unfold Func.isWrapper;first|(rw [if_pos (by decide +kernel)];kernel_rfl)|(rw [if_neg (by decide +kernel)];exact ⟨rfl,rfl⟩)
set_option maxRecDepth 100000 in
theorem saidUpto:Rows.MachineNeedsUptoSaid:=
 OpenClaim.holds_of_cond fB fnB rfl rfl rfl rfl rfl rfl rfl ⟨rfl,rfl,rfl,rfl,rfl⟩ rfl rfl rfl rfl rfl hfnB Tryz.func3 joinedB instB wrapB
  (fun os started H enc _ F=>by rw [OpenClaim.pre_eq_preRow];exact liftedUpto os started H enc F)
end Go.Proofs.YtdcdijfndhdnkaaGreatDoor.machineNeeds
