/-
  EvalFlat, for inputs of a bulk of at most 2^20: the row's statement.
-/
import Derived.Test.YtkejfpeffolhpaaGreatDoorPak
import Derived.Test.YtkejfpeffolhpaaGreatDoorPap
set_option linter.all false
set_option maxRecDepth 100000
namespace Go.Proofs.YtkejfpeffolhpaaGreatDoor.evalFlat
open Go.ChangeShapes Go.WideShapes Go.RowKit
theorem AoS:UY.isInstance pB OZ.origin OZ.targs:=of_decide_eq_true (by kernel_rfl)
theorem Atj:UY.isWrapper pB OZ.wrapper OZ.mainSum:=by unfold Func.isWrapper;first|(rw[if_pos (by decide +kernel)];kernel_rfl)|(rw[if_neg (by decide +kernel)];exact⟨rfl,rfl⟩)
theorem kZ:Rows.EvalFlatUptoSaid:=
 OpenClaim.holds_of_cond fB UY rfl rfl rfl rfl rfl rfl rfl ⟨rfl,rfl,rfl,rfl,rfl⟩ rfl rfl rfl rfl rfl Awy Tryz.func3 Ad7 AoS Atj
  (λb a H enc _ F=>by rw[OpenClaim.pre_eq_preRow];exact Wf b a H enc F)
end Go.Proofs.YtkejfpeffolhpaaGreatDoor.evalFlat
