/-
  coverRemove: closed facts of the row, each by itself.
-/
import Derived.Test.YtdeldicoigeabaaGreatDoorRows
import Derived.OpenShut
import Derived.ProofKit
import Derived.Deep.DeepHandedRow
set_option linter.all false
namespace Go.Proofs.YtdeldicoigeabaaGreatDoor.coverRemove
open Go.ChangeShapes Go.WideShapes Go.RowKit
abbrev BV:=(Rows.OpenSpec.upto Rows.coverRemoveSpec).bare
noncomputable abbrev Ng:=Rows.coverRemoveUptoRow
noncomputable abbrev SM:=Tryz.f3
noncomputable abbrev fB:=3
noncomputable abbrev pB:=Tryz.prog
theorem DK{a b:Bool}(x:a=true)(y:b=true):(a&&b)=true:=by rw[x,y];rfl
end Go.Proofs.YtdeldicoigeabaaGreatDoor.coverRemove
