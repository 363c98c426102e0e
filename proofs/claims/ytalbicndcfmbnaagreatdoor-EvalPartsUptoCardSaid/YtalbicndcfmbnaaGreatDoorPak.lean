/-
  EvalParts: the step of the second form.
-/
import Derived.Test.YtalbicndcfmbnaaGreatDoorPah
import Derived.Test.YtalbicndcfmbnaaGreatDoorPaj
set_option linter.unusedVariables false
namespace Go.Proofs.YtalbicndcfmbnaaGreatDoor.evalParts
open Go.ChangeShapes Go.WideShapes Go.RowKit
set_option maxRecDepth 100000 in
theorem Tj(os:Os)(started:os.Started)(H:Type)(enc:TypeId×Value->H)(F:Stop.Interp) :
  ReturnsInHanded {} Tryz.checked os 3 .any ((Rows.OpenSpec.upto Rows.evalPartsSpec).preRow enc Tryz.prog Tryz.f3 Rows.evalPartsUptoRow.domain false Rows.evalPartsUptoRow.laid) (((Rows.OpenSpec.upto Rows.evalPartsSpec).at F).post enc Tryz.prog Tryz.f3 false true false false):=by
 obtain⟨places,hx⟩:=pV os enc
 refine returnsInHanded_of_row (C:=Tryz.checked) (s:=Rows.OpenSpec.upto Rows.evalPartsSpec) own started (by kernel_rfl) Tryz.func3
  (witness_row_at (enc:=enc) (C:=Tryz.checked) false (World.laidAll Tryz.prog os Rows.evalPartsUptoRow.laid) Wx (World.laidAll_os _ _ _) (by kernel_rfl) (by kernel_rfl) (by kernel_rfl)
   (OpenSpec.preRow_of_cond 8 hx (by kernel_rfl) (fun k hk=>by cases hk;kernel_rfl) (by kernel_rfl) (gS os))) ?_
 intro W base args ds gs before hval hW _ hcond _ hL hSh _
 exact II H enc W base args ds gs before hval hW hL hSh (hcond _ rfl)
end Go.Proofs.YtalbicndcfmbnaaGreatDoor.evalParts
