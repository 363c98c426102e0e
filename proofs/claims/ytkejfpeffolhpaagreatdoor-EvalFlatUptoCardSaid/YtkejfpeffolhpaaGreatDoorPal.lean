/-
  evalFlat: closed facts of the row, each by itself.
-/
import Derived.Test.YtkejfpeffolhpaaGreatDoorRows
import Derived.OpenShut
import Derived.ProofKit
import Derived.Deep.DeepHandedRow
set_option linter.all false
namespace Go.Proofs.YtkejfpeffolhpaaGreatDoor.evalFlat
open Go.ChangeShapes Go.WideShapes Go.RowKit
abbrev spB:=(Rows.OpenSpec.upto Rows.evalFlatSpec).bare
noncomputable abbrev OZ:=Rows.evalFlatUptoRow
noncomputable abbrev UY:=Tryz.f3
noncomputable abbrev fB:=3
noncomputable abbrev pB:=Tryz.prog
theorem DX{a b:Bool}(x:a=true)(y:b=true):(a&&b)=true:=by rw[x,y];rfl
end Go.Proofs.YtkejfpeffolhpaaGreatDoor.evalFlat
