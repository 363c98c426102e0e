/-
  variantsInverse: closed facts of the row, each by itself.
-/
import Derived.Test.YtjhgnkpcldnmdaaGreatDoorRows
import Derived.OpenShut
import Derived.ProofKit
import Derived.Deep.DeepHandedRow
set_option linter.unusedVariables false
namespace Go.Proofs.YtjhgnkpcldnmdaaGreatDoor.variantsInverse
open Go.ChangeShapes Go.WideShapes Go.RowKit
abbrev spB:=(Rows.OpenSpec.upto Rows.variantsInverseSpec).bare
noncomputable abbrev rwB:=Rows.variantsInverseUptoRow
noncomputable abbrev fnB:=Tryz.f6
noncomputable abbrev fB:=6
noncomputable abbrev pB:=Tryz.prog
theorem andB {a b:Bool} (x:a=true) (y:b=true):(a&&b)=true:=by rw [x,y];rfl
end Go.Proofs.YtjhgnkpcldnmdaaGreatDoor.variantsInverse
