/-
  CoverRemove: what the card asks beside the row.
-/
import Derived.Test.YtdeldicoigeabaaGreatDoorPak
import Derived.Test.YtdeldicoigeabaaGreatDoorCards
set_option linter.all false
namespace Go.Proofs.YtdeldicoigeabaaGreatDoor.coverRemove
open Go.ChangeShapes Go.WideShapes Go.RowKit
theorem Kz:pB.mainIs=some (true, ("554e0a1f8746db649b09ea4fdda2ca446bacc156cf2ec35da02d1b36fd886f58" : String).toList) := by kernel_rfl
theorem KM:Ng.wfByText (Rows.OpenSpec.upto Rows.coverRemoveSpec)=true:=by kernel_rfl
theorem Io:false=Ng.goesBy pB:=by kernel_rfl
end Go.Proofs.YtdeldicoigeabaaGreatDoor.coverRemove
