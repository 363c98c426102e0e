/-
  EvalParts: what the witness pV as.
-/
import Derived.Test.YtalbicndcfmbnaaGreatDoorCards
import Derived.Test.YtalbicndcfmbnaaGreatDoorTie
import Derived.WalkKit
import Derived.ProofKit
import Derived.OpenShut
import Derived.Deep.DeepHandedRow
import Derived.Lay
import Derived.MakeChecks
set_option linter.unusedVariables false
namespace Go.Proofs.YtalbicndcfmbnaaGreatDoor.evalParts
open Go.ChangeShapes Go.WideShapes Go.RowKit
def Wx:Array Value := #[.agg #[.string "".toUTF8, .string "".toUTF8, .string "".toUTF8, .slice none 0 0, .slice none 0 0, .string "".toUTF8, .string "".toUTF8, .string "".toUTF8, .string "".toUTF8, .int .i64 0, .int .i64 0, .slice none 0 0, .slice none 0 0, .slice none 0 0, .slice none 0 0, .slice none 0 0, .slice none 0 0, .slice none 0 0, .bool false], .int .u8 0]
theorem pV(os:Os){H:Type}(enc:TypeId×Value->H):∃places,DataW.whole enc Tryz.prog ((World.laidAll Tryz.prog os Rows.evalPartsUptoRow.laid).forCall (fun _ _=>0) ⟨#[],Wx,[]⟩).memory Tryz.f3.params.toList Rows.evalPartsSpec.vars false Wx.toList 8 =
  some ([.agg [.agg [.lit (.string []),.lit (.string []),.lit (.string []),.nil,.nil,.agg [.lit (.string []),.lit (.string []),.lit (.string []),.lit (.string []),.lit (.int .i64 0),.lit (.int .i64 0)],.nil,.nil,.nil,.nil,.nil],.nil,.nil,.lit (.bool false)],.lit (.int .u8 0)],[],places):=
 ⟨[],by kernel_rfl⟩
end Go.Proofs.YtalbicndcfmbnaaGreatDoor.evalParts
