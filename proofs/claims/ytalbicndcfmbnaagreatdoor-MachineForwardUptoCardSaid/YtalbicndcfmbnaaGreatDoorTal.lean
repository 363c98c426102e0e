/-
  machineForward: closed facts of the row, each by itself.
-/
import Derived.Test.YtalbicndcfmbnaaGreatDoorRows
import Derived.OpenShut
import Derived.ProofKit
import Derived.Deep.DeepHandedRow
set_option linter.all false
namespace Go.Proofs.YtalbicndcfmbnaaGreatDoor.machineForward
open Go.ChangeShapes Go.WideShapes Go.RowKit
abbrev spB:=(Rows.OpenSpec.upto Rows.machineForwardSpec).bare
noncomputable abbrev MI:=Rows.machineForwardUptoRow
noncomputable abbrev Sp:=Tryz.f4
noncomputable abbrev fB:=4
noncomputable abbrev pB:=Tryz.prog
theorem CP{a b:Bool}(x:a=true)(y:b=true):(a&&b)=true:=by rw[x,y];rfl
end Go.Proofs.YtalbicndcfmbnaaGreatDoor.machineForward
