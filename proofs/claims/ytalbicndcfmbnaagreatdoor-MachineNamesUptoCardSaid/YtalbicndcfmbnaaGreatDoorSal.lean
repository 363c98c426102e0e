/-
  machineNames: closed facts of the row, each by itself.
-/
import Derived.Test.YtalbicndcfmbnaaGreatDoorRows
import Derived.OpenShut
import Derived.ProofKit
import Derived.Deep.DeepHandedRow
set_option linter.all false
namespace Go.Proofs.YtalbicndcfmbnaaGreatDoor.machineNames
open Go.ChangeShapes Go.WideShapes Go.RowKit
abbrev spB:=(Rows.OpenSpec.upto Rows.machineNamesSpec).bare
noncomputable abbrev MN:=Rows.machineNamesUptoRow
noncomputable abbrev Sr:=Tryz.f6
noncomputable abbrev fB:=6
noncomputable abbrev pB:=Tryz.prog
theorem CT{a b:Bool}(x:a=true)(y:b=true):(a&&b)=true:=by rw[x,y];rfl
end Go.Proofs.YtalbicndcfmbnaaGreatDoor.machineNames
