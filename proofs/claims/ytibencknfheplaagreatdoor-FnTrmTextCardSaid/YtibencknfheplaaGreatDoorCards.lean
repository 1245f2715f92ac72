/-
  DERIVED. GIVEN WITH THE SEED: THE CARDS: each row of YtibencknfheplaaGreatDoorRows.lean that lists a variable, with what it lists TIED to the program's text (the seventh form; the later family's looks); each row that meets fmt, with fmt's text TOLD by the authors' own Lean function (tested against real Go, not proved from fmt's source: count such statements apart). THE CARD IS WHAT COUNTS. Prove the row's statement (the work); the ties are given (YtibencknfheplaaGreatDoorTie.lean); close each card by the builder's one call (the guide's Derived/Test/ToyasCard.lean, 'card_holds'). Laid BY PROGRAM, IN A SANDBOX (cutbox-door.mjs). By AI agents, Wed Nov 11 2026. No macro, syntax, notation, axiom, sorry.
-/
import Derived.Test.YtibencknfheplaaGreatDoorRows
import GoSem.ClaimSeven
namespace Go.Proofs.YtibencknfheplaaGreatDoor
namespace Rows

/-- THE TIED CARD OF 'laws.FnTrmText'. -/
def fnTrmTextCard : Claim7 := { stood := { row := fnTrmTextRow, standIns := [], harness := (true, "253fccc6da2889856d2e5cd7b2d0fb09acf7febbaecb86b0e192a288015aef60"), looks := true }, kinds := [], alts := [], laidByText := true, laidKinds := [.data, .data, .data, .data, .sentinel, .sentinel, .pinned], laidTests := true, laidLooks := .later }
def FnTrmTextCardSaid : Prop := Claim7.holds Tryz.pinned (.plain (OpenSpec.ofChange fnTrmTextSpec)) fnTrmTextCard

/-- THE SECOND FORM's CARD OF 'laws.FnTrmText'. -/
def fnTrmTextUptoCard : Claim7 := { stood := { row := fnTrmTextUptoRow, standIns := [], harness := (true, "253fccc6da2889856d2e5cd7b2d0fb09acf7febbaecb86b0e192a288015aef60"), looks := true }, kinds := [], alts := [], laidByText := true, laidKinds := [.data, .data, .data, .data, .sentinel, .sentinel, .pinned], laidTests := true, laidLooks := .later }
def FnTrmTextUptoCardSaid : Prop := Claim7.holds Tryz.pinned (.plain (OpenSpec.upto fnTrmTextSpec)) fnTrmTextUptoCard
end Rows
end Go.Proofs.YtibencknfheplaaGreatDoor
