/-
  CoverRemove: the step of the second form.
-/
import Derived.Test.YtdeldicoigeabaaGreatDoorPag
import Derived.Test.YtdeldicoigeabaaGreatDoorPai
set_option linter.all false
namespace Go.Proofs.YtdeldicoigeabaaGreatDoor.coverRemove
open Go.ChangeShapes Go.WideShapes Go.RowKit
set_option maxRecDepth 100000 in
theorem Bx(e:Os)(a:e.Started)(H:Type)(enc:TypeId×Value->H)(F:Stop.Interp) :
  ReturnsInHanded {} Tryz.checked e 3 .any ((Rows.OpenSpec.upto Rows.coverRemoveSpec).preRow enc Tryz.prog Tryz.f3 Rows.coverRemoveUptoRow.domain false Rows.coverRemoveUptoRow.laid) (((Rows.OpenSpec.upto Rows.coverRemoveSpec).at F).post enc Tryz.prog Tryz.f3 false true false false):=by
 obtain⟨f,m⟩:=vR e enc;refine returnsInHanded_of_row (C:=Tryz.checked) (s:=Rows.OpenSpec.upto Rows.coverRemoveSpec) own a (by kernel_rfl) Tryz.func3
  (witness_row_at (enc:=enc) (C:=Tryz.checked) false (World.laidAll Tryz.prog e Rows.coverRemoveUptoRow.laid) dQ (World.laidAll_os _ _ _) (by kernel_rfl) (by kernel_rfl) (by kernel_rfl)
   (OpenSpec.preRow_of_cond 8 m (by kernel_rfl) (λk l=>by cases l;kernel_rfl) (by kernel_rfl) (Ans e))) ?_
 intro W base args g h b d j _ c _ i _ _;exact A0 H enc W base args g h b d j i (c _ rfl)
end Go.Proofs.YtdeldicoigeabaaGreatDoor.coverRemove
