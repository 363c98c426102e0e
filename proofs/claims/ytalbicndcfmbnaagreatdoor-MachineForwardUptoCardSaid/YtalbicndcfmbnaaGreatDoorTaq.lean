/-
  MachineForward, for inputs of a bulk of at most 2^20: the row's statement.
-/
import Derived.Test.YtalbicndcfmbnaaGreatDoorTak
import Derived.Test.YtalbicndcfmbnaaGreatDoorTap
set_option linter.all false
namespace Go.Proofs.YtalbicndcfmbnaaGreatDoor.machineForward
open Go.ChangeShapes Go.WideShapes Go.RowKit
set_option maxRecDepth 100000 in
theorem Asv:Sp.isInstance pB MI.origin MI.targs:=of_decide_eq_true (by kernel_rfl)
set_option maxRecDepth 100000 in
theorem Aoz:Sp.isWrapper pB MI.wrapper MI.mainSum:=by unfold Func.isWrapper;first|(rw[if_pos (by decide +kernel)];kernel_rfl)|(rw[if_neg (by decide +kernel)];exact⟨rfl,rfl⟩)
set_option maxRecDepth 100000 in
theorem r5:Rows.MachineForwardUptoSaid:=
 OpenClaim.holds_of_cond fB Sp rfl rfl rfl rfl rfl rfl rfl ⟨rfl,rfl,rfl,rfl,rfl⟩ rfl rfl rfl rfl rfl Aup Tryz.func4 Abj Asv Aoz
  (λb a H enc _ F=>by rw[OpenClaim.pre_eq_preRow];exact SX b a H enc F)
end Go.Proofs.YtalbicndcfmbnaaGreatDoor.machineForward
