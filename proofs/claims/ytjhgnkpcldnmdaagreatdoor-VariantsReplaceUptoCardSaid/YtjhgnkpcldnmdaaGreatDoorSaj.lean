/-
  variantsReplace: closed facts of the row, each by itself.
-/
import Derived.Test.YtjhgnkpcldnmdaaGreatDoorRows
import Derived.OpenShut
import Derived.ProofKit
import Derived.Deep.DeepHandedRow
set_option linter.unusedVariables false
namespace Go.Proofs.YtjhgnkpcldnmdaaGreatDoor.variantsReplace
open Go.ChangeShapes Go.WideShapes Go.RowKit
abbrev spB:=(Rows.OpenSpec.upto Rows.variantsReplaceSpec).bare
noncomputable abbrev rwB:=Rows.variantsReplaceUptoRow
noncomputable abbrev fnB:=Tryz.f7
noncomputable abbrev fB:=7
noncomputable abbrev pB:=Tryz.prog
theorem andB {a b:Bool} (x:a=true) (y:b=true):(a&&b)=true:=by rw [x,y];rfl
end Go.Proofs.YtjhgnkpcldnmdaaGreatDoor.variantsReplace
