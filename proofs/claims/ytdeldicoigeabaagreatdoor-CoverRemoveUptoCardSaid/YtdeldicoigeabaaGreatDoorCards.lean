/-
  DERIVED. GIVEN WITH THE SEED: THE CARDS: each row of YtdeldicoigeabaaGreatDoorRows.lean that lists a variable, with what it lists TIED to the program's text (the seventh form; the later family's looks); each row that meets fmt, with fmt's text TOLD by the authors' own Lean function (tested against real Go, not proved from fmt's source: count such statements apart). THE CARD IS WHAT COUNTS. Prove the row's statement (the work); the ties are given (YtdeldicoigeabaaGreatDoorTie.lean); close each card by the builder's one call (the guide's Derived/Test/ToyasCard.lean, 'card_holds'). Laid BY PROGRAM, IN A SANDBOX (cutbox-door.mjs). By AI agents, Wed Nov 11 2026. No macro, syntax, notation, axiom, sorry.
-/
import Derived.Test.YtdeldicoigeabaaGreatDoorRows
import GoSem.ClaimSeven
namespace Go.Proofs.YtdeldicoigeabaaGreatDoor
namespace Rows

/-- THE TIED CARD OF 'calquelaw30.CoverRemove'. -/
def coverRemoveCard : Claim7 := { stood := { row := coverRemoveRow, standIns := [], harness := (true, "554e0a1f8746db649b09ea4fdda2ca446bacc156cf2ec35da02d1b36fd886f58"), looks := true }, kinds := [], alts := [], laidByText := true, laidKinds := [.data, .data, .data, .data, .sentinel, .sentinel, .pinned], laidTests := true, laidLooks := .later }
def CoverRemoveCardSaid : Prop := Claim7.holds Tryz.pinned (.plain (OpenSpec.ofChange coverRemoveSpec)) coverRemoveCard

/-- THE SECOND FORM's CARD OF 'calquelaw30.CoverRemove'. -/
def coverRemoveUptoCard : Claim7 := { stood := { row := coverRemoveUptoRow, standIns := [], harness := (true, "554e0a1f8746db649b09ea4fdda2ca446bacc156cf2ec35da02d1b36fd886f58"), looks := true }, kinds := [], alts := [], laidByText := true, laidKinds := [.data, .data, .data, .data, .sentinel, .sentinel, .pinned], laidTests := true, laidLooks := .later }
def CoverRemoveUptoCardSaid : Prop := Claim7.holds Tryz.pinned (.plain (OpenSpec.upto coverRemoveSpec)) coverRemoveUptoCard
end Rows
end Go.Proofs.YtdeldicoigeabaaGreatDoor
