/-
  EvalParts, for inputs of a bulk of at most 2^20: the row's statement.
-/
import Derived.Test.YtalbicndcfmbnaaGreatDoorPak
import Derived.Test.YtalbicndcfmbnaaGreatDoorPap
set_option linter.unusedVariables false
namespace Go.Proofs.YtalbicndcfmbnaaGreatDoor.evalParts
open Go.ChangeShapes Go.WideShapes Go.RowKit
set_option maxRecDepth 100000 in
theorem An4:RJ.isInstance pB My.origin My.targs:=of_decide_eq_true (by kernel_rfl)
set_option maxRecDepth 100000 in
theorem AmS:RJ.isWrapper pB My.wrapper My.mainSum:=by unfold Func.isWrapper;first|(rw[if_pos (by decide +kernel)];kernel_rfl)|(rw[if_neg (by decide +kernel)];exact⟨rfl,rfl⟩)
set_option maxRecDepth 100000 in
theorem nX:Rows.EvalPartsUptoSaid:=
 OpenClaim.holds_of_cond fB RJ rfl rfl rfl rfl rfl rfl rfl ⟨rfl,rfl,rfl,rfl,rfl⟩ rfl rfl rfl rfl rfl AoF Tryz.func3 Aaf An4 AmS
  (fun os started H enc _ F=>by rw[OpenClaim.pre_eq_preRow];exact Tj os started H enc F)
end Go.Proofs.YtalbicndcfmbnaaGreatDoor.evalParts
