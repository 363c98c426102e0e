/-
  EvalValues: what the witness qP as.
-/
import Derived.Test.YtalbicndcfmbnaaGreatDoorCards
import Derived.Test.YtalbicndcfmbnaaGreatDoorTie
import Derived.WalkKit
import Derived.ProofKit
import Derived.OpenShut
import Derived.Deep.DeepHandedRow
import Derived.Lay
import Derived.MakeChecks
set_option linter.unusedVariables false
namespace Go.Proofs.YtalbicndcfmbnaaGreatDoor.evalValues
open Go.ChangeShapes Go.WideShapes Go.RowKit
def VQ:Array Value := #[.agg #[.string "".toUTF8, .string "".toUTF8, .string "".toUTF8, .slice none 0 0, .slice none 0 0, .string "".toUTF8, .string "".toUTF8, .string "".toUTF8, .string "".toUTF8, .int .i64 0, .int .i64 0, .slice none 0 0, .slice none 0 0, .slice none 0 0, .slice none 0 0, .slice none 0 0, .slice none 0 0, .slice none 0 0, .bool false], .agg #[.string "".toUTF8, .int .i64 0, .string "".toUTF8, .int .i64 0, .slice none 0 0]]
theorem qP(b:Os){H:Type}(enc:TypeId×Value->H):∃a,DataW.whole enc Tryz.prog ((World.laidAll Tryz.prog b Rows.evalValuesUptoRow.laid).forCall (λ_ _=>0) ⟨#[],VQ,[]⟩).memory Tryz.f7.params.toList Rows.evalValuesSpec.vars false VQ.toList 8 =
  some ([.agg [.agg [.lit (.string []),.lit (.string []),.lit (.string []),.nil,.nil,.agg [.lit (.string []),.lit (.string []),.lit (.string []),.lit (.string []),.lit (.int .i64 0),.lit (.int .i64 0)],.nil,.nil,.nil,.nil,.nil],.nil,.nil,.lit (.bool false)],.agg [.lit (.string []),.lit (.int .i64 0),.lit (.string []),.lit (.int .i64 0),.nil]],[],a):=
 ⟨[],by kernel_rfl⟩
end Go.Proofs.YtalbicndcfmbnaaGreatDoor.evalValues
