/-
  EvalFlat: the witness' world.
-/
import Derived.Test.YtkejfpeffolhpaaGreatDoorPai
set_option linter.all false
namespace Go.Proofs.YtkejfpeffolhpaaGreatDoor.evalFlat
open Go.ChangeShapes Go.WideShapes Go.RowKit
theorem jH(a:Os):laidMetH Tryz.prog Rows.evalFlatUptoRow.laid ((World.laidAll Tryz.prog a Rows.evalFlatUptoRow.laid).forCall (λ_ _=>0) ⟨#[],Xl,[]⟩).memory:=by rw[MakeChecks.laidMetH_plain _ _ _ (by kernel_rfl)];exact laidMet_laidAll _ (by kernel_rfl) (by kernel_rfl)
end Go.Proofs.YtkejfpeffolhpaaGreatDoor.evalFlat
