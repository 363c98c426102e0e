/-
  EvalIsolates: the witness' world.
-/
import Derived.Test.YtmlnblijickboaaGreatDoorPai
set_option linter.all false
namespace Go.Proofs.YtmlnblijickboaaGreatDoor.evalIsolates
open Go.ChangeShapes Go.WideShapes Go.RowKit
theorem dT(a:Os):laidMetH Tryz.prog Rows.evalIsolatesUptoRow.laid ((World.laidAll Tryz.prog a Rows.evalIsolatesUptoRow.laid).forCall (λ_ _=>0) ⟨#[],wargs,[]⟩).memory:=by rw[MakeChecks.laidMetH_plain _ _ _ (by kernel_rfl)];exact laidMet_laidAll _ (by kernel_rfl) (by kernel_rfl)
end Go.Proofs.YtmlnblijickboaaGreatDoor.evalIsolates
