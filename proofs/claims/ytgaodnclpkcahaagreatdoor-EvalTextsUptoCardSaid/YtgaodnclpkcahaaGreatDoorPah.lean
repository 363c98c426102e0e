/-
  EvalTexts: what the witness reads as.
-/
import Derived.Test.YtgaodnclpkcahaaGreatDoorCards
import Derived.Test.YtgaodnclpkcahaaGreatDoorTie
import Derived.WalkKit
import Derived.ProofKit
import Derived.OpenShut
import Derived.Deep.DeepHandedRow
import Derived.Lay
import Derived.MakeChecks
set_option linter.unusedVariables false
namespace Go.Proofs.YtgaodnclpkcahaaGreatDoor.evalTexts
open Go.ChangeShapes Go.WideShapes Go.RowKit
def wargs : Array Value := #[.agg #[.string "".toUTF8, .string "".toUTF8, .string "".toUTF8, .slice none 0 0, .slice none 0 0, .string "".toUTF8, .string "".toUTF8, .string "".toUTF8, .string "".toUTF8, .int .i64 0, .int .i64 0, .slice none 0 0, .slice none 0 0, .slice none 0 0, .slice none 0 0, .slice none 0 0, .slice none 0 0, .slice none 0 0, .bool false], .agg #[.string "".toUTF8, .string "".toUTF8, .string "".toUTF8, .slice none 0 0, .slice none 0 0, .string "".toUTF8, .string "".toUTF8, .string "".toUTF8, .string "".toUTF8, .int .i64 0, .int .i64 0, .slice none 0 0, .slice none 0 0, .slice none 0 0, .slice none 0 0, .slice none 0 0]]
theorem reads (os:Os) {H:Type} (enc:TypeId × Value->H):∃places,DataW.whole enc Tryz.prog ((World.laidAll Tryz.prog os Rows.evalTextsUptoRow.laid).forCall (fun _ _=>0) ⟨#[],wargs,[]⟩).memory Tryz.f3.params.toList Rows.evalTextsSpec.vars false wargs.toList 8 =
  some ([.agg [.agg [.lit (.string []),.lit (.string []),.lit (.string []),.nil,.nil,.agg [.lit (.string []),.lit (.string []),.lit (.string []),.lit (.string []),.lit (.int .i64 0),.lit (.int .i64 0)],.nil,.nil,.nil,.nil,.nil],.nil,.nil,.lit (.bool false)],.agg [.lit (.string []),.lit (.string []),.lit (.string []),.nil,.nil,.agg [.lit (.string []),.lit (.string []),.lit (.string []),.lit (.string []),.lit (.int .i64 0),.lit (.int .i64 0)],.nil,.nil,.nil,.nil,.nil]],[],places):=
 ⟨[],by kernel_rfl⟩
end Go.Proofs.YtgaodnclpkcahaaGreatDoor.evalTexts
