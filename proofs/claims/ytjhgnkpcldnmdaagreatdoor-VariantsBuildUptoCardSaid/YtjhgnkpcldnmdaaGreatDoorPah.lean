/-
  VariantsBuild: what the witness reads as.
-/
import Derived.Test.YtjhgnkpcldnmdaaGreatDoorCards
import Derived.Test.YtjhgnkpcldnmdaaGreatDoorTie
import Derived.WalkKit
import Derived.ProofKit
import Derived.OpenShut
import Derived.Deep.DeepHandedRow
import Derived.Lay
import Derived.MakeChecks
set_option linter.unusedVariables false
namespace Go.Proofs.YtjhgnkpcldnmdaaGreatDoor.variantsBuild
open Go.ChangeShapes Go.WideShapes Go.RowKit
def wargs:Array Value:=#[.slice none 0 0,.slice none 0 0]
theorem reads (os:Os) {H:Type} (enc:TypeId × Value->H):∃places,DataW.whole enc Tryz.prog ((World.laidAll Tryz.prog os Rows.variantsBuildUptoRow.laid).forCall (fun _ _=>0) ⟨#[],wargs,[]⟩).memory Tryz.f5.params.toList Rows.variantsBuildSpec.vars false wargs.toList 8 =
  some ([.nil,.nil],[],places):=
 ⟨[],by kernel_rfl⟩
end Go.Proofs.YtjhgnkpcldnmdaaGreatDoor.variantsBuild
