/-
  machineNeeds: closed facts of the row, each by itself.
-/
import Derived.Test.YtdcdijfndhdnkaaGreatDoorRows
import Derived.OpenShut
import Derived.ProofKit
import Derived.Deep.DeepHandedRow
set_option linter.unusedVariables false
namespace Go.Proofs.YtdcdijfndhdnkaaGreatDoor.machineNeeds
open Go.ChangeShapes Go.WideShapes Go.RowKit
abbrev spB:=(Rows.OpenSpec.upto Rows.machineNeedsSpec).bare
noncomputable abbrev rwB:=Rows.machineNeedsUptoRow
noncomputable abbrev fnB:=Tryz.f3
noncomputable abbrev fB:=3
noncomputable abbrev pB:=Tryz.prog
theorem andB {a b:Bool} (x:a=true) (y:b=true):(a&&b)=true:=by rw [x,y];rfl
end Go.Proofs.YtdcdijfndhdnkaaGreatDoor.machineNeeds
