/-
  evalValues: closed facts of the row, each by itself.
-/
import Derived.Test.YtalbicndcfmbnaaGreatDoorRows
import Derived.OpenShut
import Derived.ProofKit
import Derived.Deep.DeepHandedRow
set_option linter.unusedVariables false
namespace Go.Proofs.YtalbicndcfmbnaaGreatDoor.evalValues
open Go.ChangeShapes Go.WideShapes Go.RowKit
abbrev spB:=(Rows.OpenSpec.upto Rows.evalValuesSpec).bare
noncomputable abbrev NA:=Rows.evalValuesUptoRow
noncomputable abbrev SX:=Tryz.f7
noncomputable abbrev fB:=7
noncomputable abbrev pB:=Tryz.prog
theorem Du{a b:Bool}(x:a=true)(y:b=true):(a&&b)=true:=by rw[x,y];rfl
end Go.Proofs.YtalbicndcfmbnaaGreatDoor.evalValues
