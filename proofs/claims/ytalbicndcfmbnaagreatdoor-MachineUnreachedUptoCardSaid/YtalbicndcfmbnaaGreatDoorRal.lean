/-
  machineUnreached: closed facts of the row, each by itself.
-/
import Derived.Test.YtalbicndcfmbnaaGreatDoorRows
import Derived.OpenShut
import Derived.ProofKit
import Derived.Deep.DeepHandedRow
set_option linter.all false
namespace Go.Proofs.YtalbicndcfmbnaaGreatDoor.machineUnreached
open Go.ChangeShapes Go.WideShapes Go.RowKit
abbrev spB:=(Rows.OpenSpec.upto Rows.machineUnreachedSpec).bare
noncomputable abbrev MR:=Rows.machineUnreachedUptoRow
noncomputable abbrev Ss:=Tryz.f5
noncomputable abbrev fB:=5
noncomputable abbrev pB:=Tryz.prog
theorem CU{a b:Bool}(x:a=true)(y:b=true):(a&&b)=true:=by rw[x,y];rfl
end Go.Proofs.YtalbicndcfmbnaaGreatDoor.machineUnreached
