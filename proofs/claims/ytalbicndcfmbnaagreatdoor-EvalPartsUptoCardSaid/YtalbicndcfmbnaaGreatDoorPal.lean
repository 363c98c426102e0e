/-
  evalParts: closed facts of the row, each by itself.
-/
import Derived.Test.YtalbicndcfmbnaaGreatDoorRows
import Derived.OpenShut
import Derived.ProofKit
import Derived.Deep.DeepHandedRow
set_option linter.unusedVariables false
namespace Go.Proofs.YtalbicndcfmbnaaGreatDoor.evalParts
open Go.ChangeShapes Go.WideShapes Go.RowKit
abbrev spB:=(Rows.OpenSpec.upto Rows.evalPartsSpec).bare
noncomputable abbrev My:=Rows.evalPartsUptoRow
noncomputable abbrev RJ:=Tryz.f3
noncomputable abbrev fB:=3
noncomputable abbrev pB:=Tryz.prog
theorem CW{a b:Bool}(x:a=true)(y:b=true):(a&&b)=true:=by rw[x,y];rfl
end Go.Proofs.YtalbicndcfmbnaaGreatDoor.evalParts
