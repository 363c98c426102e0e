/-
  MachineNeeds: what the witness reads as.
-/
import Derived.Test.YtdcdijfndhdnkaaGreatDoorCards
import Derived.Test.YtdcdijfndhdnkaaGreatDoorTie
import Derived.WalkKit
import Derived.ProofKit
import Derived.OpenShut
import Derived.Deep.DeepHandedRow
import Derived.Lay
import Derived.MakeChecks
set_option linter.unusedVariables false
namespace Go.Proofs.YtdcdijfndhdnkaaGreatDoor.machineNeeds
open Go.ChangeShapes Go.WideShapes Go.RowKit
def wargs:Array Value:=#[.agg #[.slice none 0 0,.slice none 0 0]]
theorem reads (os:Os) {H:Type} (enc:TypeId × Value->H):∃places,DataW.whole enc Tryz.prog ((World.laidAll Tryz.prog os Rows.machineNeedsUptoRow.laid).forCall (fun _ _=>0) ⟨#[],wargs,[]⟩).memory Tryz.f3.params.toList Rows.machineNeedsSpec.vars false wargs.toList 8 =
  some ([.agg [.nil,.nil]],[],places):=
 ⟨[],by kernel_rfl⟩
end Go.Proofs.YtdcdijfndhdnkaaGreatDoor.machineNeeds
