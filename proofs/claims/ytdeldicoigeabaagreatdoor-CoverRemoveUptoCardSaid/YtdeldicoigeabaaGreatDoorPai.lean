/-
  CoverRemove: the witness' world.
-/
import Derived.Test.YtdeldicoigeabaaGreatDoorPah
set_option linter.all false
namespace Go.Proofs.YtdeldicoigeabaaGreatDoor.coverRemove
open Go.ChangeShapes Go.WideShapes Go.RowKit
theorem Ans(a:Os):laidMetH Tryz.prog Rows.coverRemoveUptoRow.laid ((World.laidAll Tryz.prog a Rows.coverRemoveUptoRow.laid).forCall (λ_ _=>0) ⟨#[],dQ,[]⟩).memory:=by rw[MakeChecks.laidMetH_plain _ _ _ (by kernel_rfl)];exact laidMet_laidAll _ (by kernel_rfl) (by kernel_rfl)
end Go.Proofs.YtdeldicoigeabaaGreatDoor.coverRemove
