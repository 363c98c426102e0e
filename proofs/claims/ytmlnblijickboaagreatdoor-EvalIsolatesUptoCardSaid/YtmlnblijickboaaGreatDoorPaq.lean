/-
  EvalIsolates, for inputs of a bulk of at most 2^20: the row's statement.
-/
import Derived.Test.YtmlnblijickboaaGreatDoorPak
import Derived.Test.YtmlnblijickboaaGreatDoorPap
set_option linter.all false
set_option maxRecDepth 100000
namespace Go.Proofs.YtmlnblijickboaaGreatDoor.evalIsolates
open Go.ChangeShapes Go.WideShapes Go.RowKit
theorem Ara:fnB.isInstance pB rwB.origin rwB.targs:=of_decide_eq_true (by kernel_rfl)
theorem Apo:fnB.isWrapper pB rwB.wrapper rwB.mainSum:=by unfold Func.isWrapper;first|(rw[if_pos (by decide +kernel)];kernel_rfl)|(rw[if_neg (by decide +kernel)];exact⟨rfl,rfl⟩)
theorem eG:Rows.EvalIsolatesUptoSaid:=
 OpenClaim.holds_of_cond fB fnB rfl rfl rfl rfl rfl rfl rfl ⟨rfl,rfl,rfl,rfl,rfl⟩ rfl rfl rfl rfl rfl Aud Tryz.func3 zZ Ara Apo
  (λb a H enc _ F=>by rw[OpenClaim.pre_eq_preRow];exact Vf b a H enc F)
end Go.Proofs.YtmlnblijickboaaGreatDoor.evalIsolates
