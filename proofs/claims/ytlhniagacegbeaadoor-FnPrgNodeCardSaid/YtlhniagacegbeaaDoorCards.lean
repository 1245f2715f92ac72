/-
  DERIVED. GIVEN WITH THE SEED: THE CARDS: each row of YtlhniagacegbeaaDoorRows.lean that lists a variable, with what it lists TIED to the program's text (the seventh form; the later family's looks); each row that meets fmt, with fmt's text TOLD by the authors' own Lean function (tested against real Go, not proved from fmt's source: count such statements apart). THE CARD IS WHAT COUNTS. Prove the row's statement (the work); the ties are given (YtlhniagacegbeaaDoorTie.lean); close each card by the builder's one call (the guide's Derived/Test/ToyasCard.lean, 'card_holds'). Laid BY PROGRAM, IN A SANDBOX (cutbox-door.mjs). By AI agents, Wed Nov 11 2026. No macro, syntax, notation, axiom, sorry.
-/
import Derived.Test.YtlhniagacegbeaaDoorRows
import GoSem.ClaimSeven
namespace Go.Proofs.YtlhniagacegbeaaDoor
namespace Rows

/-- THE TIED CARD OF 'laws.FnExactGoalText'. -/
def fnExactGoalTextCard : Claim7 := { stood := { row := fnExactGoalTextRow, standIns := [], harness := (true, "f045b175de8376598349c0e5f4aa9405467945c4d811aaec98045cf7205f6236"), looks := false }, kinds := [], alts := [], laidByText := true, laidKinds := [.data, .data, .data, .data, .pinned], laidTests := true, laidLooks := .later }
def FnExactGoalTextCardSaid : Prop := Claim7.holds Tryd.pinned (.plain (OpenSpec.ofChange fnExactGoalTextSpec)) fnExactGoalTextCard

/-- THE TIED CARD OF 'laws.FnPrgNode'. -/
def fnPrgNodeCard : Claim7 := { stood := { row := fnPrgNodeRow, standIns := [], harness := (true, "f045b175de8376598349c0e5f4aa9405467945c4d811aaec98045cf7205f6236"), looks := false }, kinds := [], alts := [], laidByText := true, laidKinds := [.data, .pinned], laidTests := true, laidLooks := .later }
def FnPrgNodeCardSaid : Prop := Claim7.holds Tryd.pinned (.plain (OpenSpec.ofChange fnPrgNodeSpec)) fnPrgNodeCard

/-- THE SECOND FORM's CARD OF 'laws.FnExactGoalText'. -/
def fnExactGoalTextUptoCard : Claim7 := { stood := { row := fnExactGoalTextUptoRow, standIns := [], harness := (true, "f045b175de8376598349c0e5f4aa9405467945c4d811aaec98045cf7205f6236"), looks := false }, kinds := [], alts := [], laidByText := true, laidKinds := [.data, .data, .data, .data, .pinned], laidTests := true, laidLooks := .later }
def FnExactGoalTextUptoCardSaid : Prop := Claim7.holds Tryd.pinned (.plain (OpenSpec.upto fnExactGoalTextSpec)) fnExactGoalTextUptoCard

/-- THE SECOND FORM's CARD OF 'laws.FnPrgNode'. -/
def fnPrgNodeUptoCard : Claim7 := { stood := { row := fnPrgNodeUptoRow, standIns := [], harness := (true, "f045b175de8376598349c0e5f4aa9405467945c4d811aaec98045cf7205f6236"), looks := false }, kinds := [], alts := [], laidByText := true, laidKinds := [.data, .pinned], laidTests := true, laidLooks := .later }
def FnPrgNodeUptoCardSaid : Prop := Claim7.holds Tryd.pinned (.plain (OpenSpec.upto fnPrgNodeSpec)) fnPrgNodeUptoCard
end Rows
end Go.Proofs.YtlhniagacegbeaaDoor
