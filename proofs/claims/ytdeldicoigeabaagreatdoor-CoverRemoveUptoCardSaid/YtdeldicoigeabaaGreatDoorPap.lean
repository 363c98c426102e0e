/-
  CoverRemove, for inputs of a bulk of at most 2^20: the row's statement.
-/
import Derived.Test.YtdeldicoigeabaaGreatDoorPaj
import Derived.Test.YtdeldicoigeabaaGreatDoorPao
set_option linter.all false
namespace Go.Proofs.YtdeldicoigeabaaGreatDoor.coverRemove
open Go.ChangeShapes Go.WideShapes Go.RowKit
set_option maxRecDepth 100000 in
theorem Avk:SM.isInstance pB Ng.origin Ng.targs:=of_decide_eq_true (by kernel_rfl)
set_option maxRecDepth 100000 in
theorem AuU:SM.isWrapper pB Ng.wrapper Ng.mainSum:=by unfold Func.isWrapper;first|(rw[if_pos (by decide +kernel)];kernel_rfl)|(rw[if_neg (by decide +kernel)];exact⟨rfl,rfl⟩)
set_option maxRecDepth 100000 in
theorem BH:Rows.CoverRemoveUptoSaid:=
 OpenClaim.holds_of_cond fB SM rfl rfl rfl rfl rfl rfl rfl ⟨rfl,rfl,rfl,rfl,rfl⟩ rfl rfl rfl rfl rfl Awb Tryz.func3 Aqj Avk AuU
  (λb a H enc _ F=>by rw[OpenClaim.pre_eq_preRow];exact Bx b a H enc F)
end Go.Proofs.YtdeldicoigeabaaGreatDoor.coverRemove
