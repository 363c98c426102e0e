/-
  EvalFlat: what the witness AaR as.
-/
import Derived.Test.YtkejfpeffolhpaaGreatDoorCards
import Derived.Test.YtkejfpeffolhpaaGreatDoorTie
import Derived.WalkKit
import Derived.ProofKit
import Derived.OpenShut
import Derived.Deep.DeepHandedRow
import Derived.Lay
import Derived.MakeChecks
set_option linter.all false
namespace Go.Proofs.YtkejfpeffolhpaaGreatDoor.evalFlat
open Go.ChangeShapes Go.WideShapes Go.RowKit
def Xl:Array Value := #[.agg #[.string "".toUTF8, .string "".toUTF8, .string "".toUTF8, .slice none 0 0, .slice none 0 0, .string "".toUTF8, .string "".toUTF8, .string "".toUTF8, .string "".toUTF8, .int .i64 0, .int .i64 0, .slice none 0 0, .slice none 0 0, .slice none 0 0, .slice none 0 0, .slice none 0 0, .slice none 0 0, .slice none 0 0, .bool false]]
theorem AaR(b:Os){H:Type}(enc:TypeId×Value->H):∃a,DataW.whole enc Tryz.prog ((World.laidAll Tryz.prog b Rows.evalFlatUptoRow.laid).forCall (λ_ _=>0) ⟨#[],Xl,[]⟩).memory Tryz.f3.params.toList Rows.evalFlatSpec.vars false Xl.toList 8 =
  some ([.agg [.agg [.lit (.string []),.lit (.string []),.lit (.string []),.nil,.nil,.agg [.lit (.string []),.lit (.string []),.lit (.string []),.lit (.string []),.lit (.int .i64 0),.lit (.int .i64 0)],.nil,.nil,.nil,.nil,.nil],.nil,.nil,.lit (.bool false)]],[],a):=
 ⟨[],by kernel_rfl⟩
end Go.Proofs.YtkejfpeffolhpaaGreatDoor.evalFlat
