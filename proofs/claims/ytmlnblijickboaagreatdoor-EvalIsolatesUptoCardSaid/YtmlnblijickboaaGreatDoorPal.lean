/-
  evalIsolates: closed facts of the row, each by itself.
-/
import Derived.Test.YtmlnblijickboaaGreatDoorRows
import Derived.OpenShut
import Derived.ProofKit
import Derived.Deep.DeepHandedRow
set_option linter.all false
namespace Go.Proofs.YtmlnblijickboaaGreatDoor.evalIsolates
open Go.ChangeShapes Go.WideShapes Go.RowKit
abbrev spB:=(Rows.OpenSpec.upto Rows.evalIsolatesSpec).bare
noncomputable abbrev rwB:=Rows.evalIsolatesUptoRow
noncomputable abbrev fnB:=Tryz.f3
noncomputable abbrev fB:=3
noncomputable abbrev pB:=Tryz.prog
theorem D6{a b:Bool}(x:a=true)(y:b=true):(a&&b)=true:=by rw[x,y];rfl
end Go.Proofs.YtmlnblijickboaaGreatDoor.evalIsolates
