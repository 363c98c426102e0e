/-
  VariantsReplace: what the witness reads as.
-/
import Derived.Test.YtjhgnkpcldnmdaaGreatDoorCards
import Derived.Test.YtjhgnkpcldnmdaaGreatDoorTie
import Derived.WalkKit
import Derived.ProofKit
import Derived.OpenShut
import Derived.Deep.DeepHandedRow
import Derived.Lay
import Derived.MakeChecks
set_option linter.unusedVariables false
namespace Go.Proofs.YtjhgnkpcldnmdaaGreatDoor.variantsReplace
open Go.ChangeShapes Go.WideShapes Go.RowKit
def wargs:Array Value:=#[.slice none 0 0,.slice none 0 0,.int .u8 0]
theorem reads (os:Os) {H:Type} (enc:TypeId × Value->H):∃places,DataW.whole enc Tryz.prog ((World.laidAll Tryz.prog os Rows.variantsReplaceUptoRow.laid).forCall (fun _ _=>0) ⟨#[],wargs,[]⟩).memory Tryz.f7.params.toList Rows.variantsReplaceSpec.vars false wargs.toList 8 =
  some ([.nil,.nil,.lit (.int .u8 0)],[],places):=
 ⟨[],by kernel_rfl⟩
end Go.Proofs.YtjhgnkpcldnmdaaGreatDoor.variantsReplace
