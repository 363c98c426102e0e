/-
  EvalValues, for inputs of a bulk of at most 2^20: the row's statement.
-/
import Derived.Test.YtalbicndcfmbnaaGreatDoorPak
import Derived.Test.YtalbicndcfmbnaaGreatDoorPap
set_option linter.unusedVariables false
namespace Go.Proofs.YtalbicndcfmbnaaGreatDoor.evalValues
open Go.ChangeShapes Go.WideShapes Go.RowKit
set_option maxRecDepth 100000 in
theorem An4:SX.isInstance pB NA.origin NA.targs:=of_decide_eq_true (by kernel_rfl)
set_option maxRecDepth 100000 in
theorem AoT:SX.isWrapper pB NA.wrapper NA.mainSum:=by unfold Func.isWrapper;first|(rw[if_pos (by decide +kernel)];kernel_rfl)|(rw[if_neg (by decide +kernel)];exact⟨rfl,rfl⟩)
set_option maxRecDepth 100000 in
theorem gX:Rows.EvalValuesUptoSaid:=
 OpenClaim.holds_of_cond fB SX rfl rfl rfl rfl rfl rfl rfl ⟨rfl,rfl,rfl,rfl,rfl⟩ rfl rfl rfl rfl rfl ArK Tryz.func7 Acv An4 AoT
  (λb a H enc _ F=>by rw[OpenClaim.pre_eq_preRow];exact U8 b a H enc F)
end Go.Proofs.YtalbicndcfmbnaaGreatDoor.evalValues
