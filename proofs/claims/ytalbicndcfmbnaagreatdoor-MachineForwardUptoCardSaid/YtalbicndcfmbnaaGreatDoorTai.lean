/-
  MachineForward: what the witness uW as.
-/
import Derived.Test.YtalbicndcfmbnaaGreatDoorCards
import Derived.Test.YtalbicndcfmbnaaGreatDoorTie
import Derived.WalkKit
import Derived.ProofKit
import Derived.OpenShut
import Derived.Deep.DeepHandedRow
import Derived.Lay
import Derived.MakeChecks
set_option linter.all false
namespace Go.Proofs.YtalbicndcfmbnaaGreatDoor.machineForward
open Go.ChangeShapes Go.WideShapes Go.RowKit
def UN:Array Value := #[.agg #[.slice none 0 0, .slice none 0 0], .agg #[.string "".toUTF8, .string "".toUTF8, .string "".toUTF8, .slice none 0 0, .slice none 0 0, .string "".toUTF8, .string "".toUTF8, .string "".toUTF8, .string "".toUTF8, .int .i64 0, .int .i64 0, .slice none 0 0, .slice none 0 0, .slice none 0 0, .slice none 0 0, .slice none 0 0, .slice none 0 0, .bool false]]
theorem uW(b:Os){H:Type}(enc:TypeId×Value->H):∃a,DataW.whole enc Tryz.prog ((World.laidAll Tryz.prog b Rows.machineForwardUptoRow.laid).forCall (λ_ _=>0) ⟨#[],UN,[]⟩).memory Tryz.f4.params.toList Rows.machineForwardSpec.vars false UN.toList 8 =
  some ([.agg [.nil,.nil],.agg [.agg [.lit (.string []),.lit (.string []),.lit (.string []),.nil,.nil,.agg [.lit (.string []),.lit (.string []),.lit (.string []),.lit (.string []),.lit (.int .i64 0),.lit (.int .i64 0)],.nil,.nil,.nil,.nil,.nil],.nil,.lit (.bool false)]],[],a):=
 ⟨[],by kernel_rfl⟩
end Go.Proofs.YtalbicndcfmbnaaGreatDoor.machineForward
