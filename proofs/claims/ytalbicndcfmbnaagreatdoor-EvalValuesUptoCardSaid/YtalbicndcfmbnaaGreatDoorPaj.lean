/-
  EvalValues: the witness' world.
-/
import Derived.Test.YtalbicndcfmbnaaGreatDoorPai
set_option linter.unusedVariables false
namespace Go.Proofs.YtalbicndcfmbnaaGreatDoor.evalValues
open Go.ChangeShapes Go.WideShapes Go.RowKit
theorem oJ(a:Os):laidMetH Tryz.prog Rows.evalValuesUptoRow.laid ((World.laidAll Tryz.prog a Rows.evalValuesUptoRow.laid).forCall (λ_ _=>0) ⟨#[],VQ,[]⟩).memory:=by rw[MakeChecks.laidMetH_plain _ _ _ (by kernel_rfl)];exact laidMet_laidAll _ (by kernel_rfl) (by kernel_rfl)
end Go.Proofs.YtalbicndcfmbnaaGreatDoor.evalValues
