/-
  EvalTexts: the witness' world.
-/
import Derived.Test.YtgaodnclpkcahaaGreatDoorPah
set_option linter.unusedVariables false
namespace Go.Proofs.YtgaodnclpkcahaaGreatDoor.evalTexts
open Go.ChangeShapes Go.WideShapes Go.RowKit
theorem laid_met (os:Os):laidMetH Tryz.prog Rows.evalTextsUptoRow.laid ((World.laidAll Tryz.prog os Rows.evalTextsUptoRow.laid).forCall (fun _ _=>0) ⟨#[],wargs,[]⟩).memory:=by
 rw [MakeChecks.laidMetH_plain _ _ _ (by kernel_rfl)]
 exact laidMet_laidAll _ (by kernel_rfl) (by kernel_rfl)
end Go.Proofs.YtgaodnclpkcahaaGreatDoor.evalTexts
