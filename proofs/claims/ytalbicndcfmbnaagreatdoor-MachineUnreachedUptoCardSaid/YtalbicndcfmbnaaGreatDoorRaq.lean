/-
  MachineUnreached, for inputs of a bulk of at most 2^20: the row's statement.
-/
import Derived.Test.YtalbicndcfmbnaaGreatDoorRak
import Derived.Test.YtalbicndcfmbnaaGreatDoorRap
set_option linter.all false
namespace Go.Proofs.YtalbicndcfmbnaaGreatDoor.machineUnreached
open Go.ChangeShapes Go.WideShapes Go.RowKit
set_option maxRecDepth 100000 in
theorem AmR:Ss.isInstance pB MR.origin MR.targs:=of_decide_eq_true (by kernel_rfl)
set_option maxRecDepth 100000 in
theorem Asp:Ss.isWrapper pB MR.wrapper MR.mainSum:=by unfold Func.isWrapper;first|(rw[if_pos (by decide +kernel)];kernel_rfl)|(rw[if_neg (by decide +kernel)];exact⟨rfl,rfl⟩)
set_option maxRecDepth 100000 in
theorem mH:Rows.MachineUnreachedUptoSaid:=
 OpenClaim.holds_of_cond fB Ss rfl rfl rfl rfl rfl rfl rfl ⟨rfl,rfl,rfl,rfl,rfl⟩ rfl rfl rfl rfl rfl AtL Tryz.func5 y8 AmR Asp
  (λb a H enc _ F=>by rw[OpenClaim.pre_eq_preRow];exact SJ b a H enc F)
end Go.Proofs.YtalbicndcfmbnaaGreatDoor.machineUnreached
