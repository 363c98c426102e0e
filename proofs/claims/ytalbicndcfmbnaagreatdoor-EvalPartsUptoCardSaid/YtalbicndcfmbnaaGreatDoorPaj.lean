/-
  EvalParts: the witness' world.
-/
import Derived.Test.YtalbicndcfmbnaaGreatDoorPai
set_option linter.unusedVariables false
namespace Go.Proofs.YtalbicndcfmbnaaGreatDoor.evalParts
open Go.ChangeShapes Go.WideShapes Go.RowKit
theorem gS(os:Os):laidMetH Tryz.prog Rows.evalPartsUptoRow.laid ((World.laidAll Tryz.prog os Rows.evalPartsUptoRow.laid).forCall (fun _ _=>0) ⟨#[],Wx,[]⟩).memory:=by
 rw[MakeChecks.laidMetH_plain _ _ _ (by kernel_rfl)]
 exact laidMet_laidAll _ (by kernel_rfl) (by kernel_rfl)
end Go.Proofs.YtalbicndcfmbnaaGreatDoor.evalParts
