/-
  MachineNames, for inputs of a bulk of at most 2^20: the row's statement.
-/
import Derived.Test.YtalbicndcfmbnaaGreatDoorSak
import Derived.Test.YtalbicndcfmbnaaGreatDoorSap
set_option linter.all false
namespace Go.Proofs.YtalbicndcfmbnaaGreatDoor.machineNames
open Go.ChangeShapes Go.WideShapes Go.RowKit
set_option maxRecDepth 100000 in
theorem Aoz:Sr.isInstance pB MN.origin MN.targs:=of_decide_eq_true (by kernel_rfl)
set_option maxRecDepth 100000 in
theorem Ap6:Sr.isWrapper pB MN.wrapper MN.mainSum:=by unfold Func.isWrapper;first|(rw[if_pos (by decide +kernel)];kernel_rfl)|(rw[if_neg (by decide +kernel)];exact⟨rfl,rfl⟩)
set_option maxRecDepth 100000 in
theorem wW:Rows.MachineNamesUptoSaid:=
 OpenClaim.holds_of_cond fB Sr rfl rfl rfl rfl rfl rfl rfl ⟨rfl,rfl,rfl,rfl,rfl⟩ rfl rfl rfl rfl rfl AtU Tryz.func6 zZ Aoz Ap6
  (λb a H enc _ F=>by rw[OpenClaim.pre_eq_preRow];exact TL b a H enc F)
end Go.Proofs.YtalbicndcfmbnaaGreatDoor.machineNames
