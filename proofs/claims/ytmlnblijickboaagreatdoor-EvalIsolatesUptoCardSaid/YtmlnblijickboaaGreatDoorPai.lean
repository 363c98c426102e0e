/-
  EvalIsolates: what the witness rW as.
-/
import Derived.Test.YtmlnblijickboaaGreatDoorCards
import Derived.Test.YtmlnblijickboaaGreatDoorTie
import Derived.WalkKit
import Derived.ProofKit
import Derived.OpenShut
import Derived.Deep.DeepHandedRow
import Derived.Lay
import Derived.MakeChecks
set_option linter.all false
namespace Go.Proofs.YtmlnblijickboaaGreatDoor.evalIsolates
open Go.ChangeShapes Go.WideShapes Go.RowKit
def wargs:Array Value := #[.agg #[.string "".toUTF8, .string "".toUTF8, .string "".toUTF8, .slice none 0 0, .slice none 0 0, .string "".toUTF8, .string "".toUTF8, .string "".toUTF8, .string "".toUTF8, .int .i64 0, .int .i64 0, .slice none 0 0, .slice none 0 0, .slice none 0 0, .slice none 0 0, .slice none 0 0, .slice none 0 0, .slice none 0 0, .bool false]]
theorem rW(b:Os){H:Type}(enc:TypeId×Value->H):∃a,DataW.whole enc Tryz.prog ((World.laidAll Tryz.prog b Rows.evalIsolatesUptoRow.laid).forCall (λ_ _=>0) ⟨#[],wargs,[]⟩).memory Tryz.f3.params.toList Rows.evalIsolatesSpec.vars false wargs.toList 8 =
  some ([.agg [.agg [.lit (.string []),.lit (.string []),.lit (.string []),.nil,.nil,.agg [.lit (.string []),.lit (.string []),.lit (.string []),.lit (.string []),.lit (.int .i64 0),.lit (.int .i64 0)],.nil,.nil,.nil,.nil,.nil],.nil,.nil,.lit (.bool false)]],[],a):=
 ⟨[],by kernel_rfl⟩
end Go.Proofs.YtmlnblijickboaaGreatDoor.evalIsolates
