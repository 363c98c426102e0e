/-
  variantsOne: closed facts of the row, each by itself.
-/
import Derived.Test.YtgkmbjojkihbmaaGreatDoorRows
import Derived.OpenShut
import Derived.ProofKit
import Derived.Deep.DeepHandedRow
set_option linter.unusedVariables false
namespace Go.Proofs.YtgkmbjojkihbmaaGreatDoor.variantsOne
open Go.ChangeShapes Go.WideShapes Go.RowKit
abbrev spB:=(Rows.OpenSpec.upto Rows.variantsOneSpec).bare
noncomputable abbrev rwB:=Rows.variantsOneUptoRow
noncomputable abbrev fnB:=Tryz.f5
noncomputable abbrev fB:=5
noncomputable abbrev pB:=Tryz.prog
theorem andB {a b:Bool} (x:a=true) (y:b=true):(a&&b)=true:=by rw [x,y];rfl
end Go.Proofs.YtgkmbjojkihbmaaGreatDoor.variantsOne
