/-
  DERIVED. GIVEN WITH THE SEED: THE CARDS: each row of YtibencknfheplaaDoorRows.lean that lists a variable, with what it lists TIED to the program's text (the seventh form; the later family's looks); each row that meets fmt, with fmt's text TOLD by the authors' own Lean function (tested against real Go, not proved from fmt's source: count such statements apart). THE CARD IS WHAT COUNTS. Prove the row's statement (the work); the ties are given (YtibencknfheplaaDoorTie.lean); close each card by the builder's one call (the guide's Derived/Test/ToyasCard.lean, 'card_holds'). Laid BY PROGRAM, IN A SANDBOX (cutbox-door.mjs). By AI agents, Wed Nov 11 2026. No macro, syntax, notation, axiom, sorry.
-/
import Derived.Test.YtibencknfheplaaDoorRows
import GoSem.ClaimSeven
namespace Go.Proofs.YtibencknfheplaaDoor
namespace Rows

/-- THE TIED CARD OF 'laws.FnExactTrmText'. -/
def fnExactTrmTextCard : Claim7 := { stood := { row := fnExactTrmTextRow, standIns := [], harness := (true, "3082b26434d0b93c836d674f7e06f444858e38d78c794ac6c9a71581c5d83494"), looks := true }, kinds := [], alts := [], laidByText := true, laidKinds := [.data, .data, .data, .data, .pinned], laidTests := true, laidLooks := .later }
def FnExactTrmTextCardSaid : Prop := Claim7.holds Tryd.pinned (.plain (OpenSpec.ofChange fnExactTrmTextSpec)) fnExactTrmTextCard

/-- THE TIED CARD OF 'laws.FnTrmTextFree'. -/
def fnTrmTextFreeCard : Claim7 := { stood := { row := fnTrmTextFreeRow, standIns := [], harness := (true, "3082b26434d0b93c836d674f7e06f444858e38d78c794ac6c9a71581c5d83494"), looks := true }, kinds := [], alts := [], laidByText := true, laidKinds := [.data, .data, .data, .data, .sentinel, .sentinel, .pinned], laidTests := true, laidLooks := .later }
def FnTrmTextFreeCardSaid : Prop := Claim7.holds Tryd.pinned (.plain (OpenSpec.ofChange fnTrmTextFreeSpec)) fnTrmTextFreeCard

/-- THE TIED CARD OF 'laws.FnExactTrmRead'. -/
def fnExactTrmReadCard : Claim7 := { stood := { row := fnExactTrmReadRow, standIns := [], harness := (true, "3082b26434d0b93c836d674f7e06f444858e38d78c794ac6c9a71581c5d83494"), looks := true }, kinds := [], alts := [], laidByText := true, laidKinds := [.data, .data, .data, .data, .sentinel, .sentinel, .pinned], laidTests := true, laidLooks := .later }
def FnExactTrmReadCardSaid : Prop := Claim7.holds Tryd.pinned (.plain (OpenSpec.ofChange fnExactTrmReadSpec)) fnExactTrmReadCard

/-- THE SECOND FORM's CARD OF 'laws.FnExactTrmText'. -/
def fnExactTrmTextUptoCard : Claim7 := { stood := { row := fnExactTrmTextUptoRow, standIns := [], harness := (true, "3082b26434d0b93c836d674f7e06f444858e38d78c794ac6c9a71581c5d83494"), looks := true }, kinds := [], alts := [], laidByText := true, laidKinds := [.data, .data, .data, .data, .pinned], laidTests := true, laidLooks := .later }
def FnExactTrmTextUptoCardSaid : Prop := Claim7.holds Tryd.pinned (.plain (OpenSpec.upto fnExactTrmTextSpec)) fnExactTrmTextUptoCard

/-- THE SECOND FORM's CARD OF 'laws.FnTrmTextFree'. -/
def fnTrmTextFreeUptoCard : Claim7 := { stood := { row := fnTrmTextFreeUptoRow, standIns := [], harness := (true, "3082b26434d0b93c836d674f7e06f444858e38d78c794ac6c9a71581c5d83494"), looks := true }, kinds := [], alts := [], laidByText := true, laidKinds := [.data, .data, .data, .data, .sentinel, .sentinel, .pinned], laidTests := true, laidLooks := .later }
def FnTrmTextFreeUptoCardSaid : Prop := Claim7.holds Tryd.pinned (.plain (OpenSpec.upto fnTrmTextFreeSpec)) fnTrmTextFreeUptoCard

/-- THE SECOND FORM's CARD OF 'laws.FnExactTrmRead'. -/
def fnExactTrmReadUptoCard : Claim7 := { stood := { row := fnExactTrmReadUptoRow, standIns := [], harness := (true, "3082b26434d0b93c836d674f7e06f444858e38d78c794ac6c9a71581c5d83494"), looks := true }, kinds := [], alts := [], laidByText := true, laidKinds := [.data, .data, .data, .data, .sentinel, .sentinel, .pinned], laidTests := true, laidLooks := .later }
def FnExactTrmReadUptoCardSaid : Prop := Claim7.holds Tryd.pinned (.plain (OpenSpec.upto fnExactTrmReadSpec)) fnExactTrmReadUptoCard
end Rows
end Go.Proofs.YtibencknfheplaaDoor
