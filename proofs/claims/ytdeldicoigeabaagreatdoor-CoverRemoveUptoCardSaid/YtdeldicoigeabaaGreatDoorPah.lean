/-
  CoverRemove: what the witness vR as.
-/
import Derived.Test.YtdeldicoigeabaaGreatDoorCards
import Derived.Test.YtdeldicoigeabaaGreatDoorTie
import Derived.WalkKit
import Derived.ProofKit
import Derived.OpenShut
import Derived.Deep.DeepHandedRow
import Derived.Lay
import Derived.MakeChecks
set_option linter.all false
namespace Go.Proofs.YtdeldicoigeabaaGreatDoor.coverRemove
open Go.ChangeShapes Go.WideShapes Go.RowKit
def dQ:Array Value:=#[.slice none 0 0,.slice none 0 0]
theorem vR(b:Os){H:Type}(enc:TypeId×Value->H):∃a,DataW.whole enc Tryz.prog ((World.laidAll Tryz.prog b Rows.coverRemoveUptoRow.laid).forCall (λ_ _=>0) ⟨#[],dQ,[]⟩).memory Tryz.f3.params.toList Rows.coverRemoveSpec.vars false dQ.toList 8 =
  some ([.nil,.nil],[],a):=
 ⟨[],by kernel_rfl⟩
end Go.Proofs.YtdeldicoigeabaaGreatDoor.coverRemove
