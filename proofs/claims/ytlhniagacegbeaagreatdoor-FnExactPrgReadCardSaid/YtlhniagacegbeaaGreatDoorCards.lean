/-
  DERIVED. GIVEN WITH THE SEED: THE CARDS: each row of YtlhniagacegbeaaGreatDoorRows.lean that lists a variable, with what it lists TIED to the program's text (the seventh form; the later family's looks); each row that meets fmt, with fmt's text TOLD by the authors' own Lean function (tested against real Go, not proved from fmt's source: count such statements apart). THE CARD IS WHAT COUNTS. Prove the row's statement (the work); the ties are given (YtlhniagacegbeaaGreatDoorTie.lean); close each card by the builder's one call (the guide's Derived/Test/ToyasCard.lean, 'card_holds'). Laid BY PROGRAM, IN A SANDBOX (cutbox-door.mjs). By AI agents, Wed Nov 11 2026. No macro, syntax, notation, axiom, sorry.
-/
import Derived.Test.YtlhniagacegbeaaGreatDoorRows
import GoSem.ClaimSeven
namespace Go.Proofs.YtlhniagacegbeaaGreatDoor
namespace Rows

/-- THE TIED CARD OF 'laws.FnExactGoalRead'. -/
def fnExactGoalReadCard : Claim7 := { stood := { row := fnExactGoalReadRow, standIns := [], harness := (true, "740c88b13215636d498bb43344aa69702e7143c5b4065a851c4e7dd881474822"), looks := true }, kinds := [], alts := [], laidByText := true, laidKinds := [.data, .data, .data, .data, .sentinel, .sentinel, .pinned], laidTests := true, laidLooks := .later }
def FnExactGoalReadCardSaid : Prop := Claim7.holds Tryz.pinned (.plain (OpenSpec.ofChange fnExactGoalReadSpec)) fnExactGoalReadCard

/-- THE TIED CARD OF 'laws.FnGoalText'. -/
def fnGoalTextCard : Claim7 := { stood := { row := fnGoalTextRow, standIns := [], harness := (true, "740c88b13215636d498bb43344aa69702e7143c5b4065a851c4e7dd881474822"), looks := true }, kinds := [], alts := [], laidByText := true, laidKinds := [.data, .data, .data, .data, .sentinel, .sentinel, .pinned], laidTests := true, laidLooks := .later }
def FnGoalTextCardSaid : Prop := Claim7.holds Tryz.pinned (.plain (OpenSpec.ofChange fnGoalTextSpec)) fnGoalTextCard

/-- THE TIED CARD OF 'laws.FnExactPrgRead'. -/
def fnExactPrgReadCard : Claim7 := { stood := { row := fnExactPrgReadRow, standIns := [], harness := (true, "740c88b13215636d498bb43344aa69702e7143c5b4065a851c4e7dd881474822"), looks := true }, kinds := [], alts := [], laidByText := true, laidKinds := [.data, .data, .data, .data, .sentinel, .sentinel, .pinned], laidTests := true, laidLooks := .later }
def FnExactPrgReadCardSaid : Prop := Claim7.holds Tryz.pinned (.plain (OpenSpec.ofChange fnExactPrgReadSpec)) fnExactPrgReadCard

/-- THE SECOND FORM's CARD OF 'laws.FnExactGoalRead'. -/
def fnExactGoalReadUptoCard : Claim7 := { stood := { row := fnExactGoalReadUptoRow, standIns := [], harness := (true, "740c88b13215636d498bb43344aa69702e7143c5b4065a851c4e7dd881474822"), looks := true }, kinds := [], alts := [], laidByText := true, laidKinds := [.data, .data, .data, .data, .sentinel, .sentinel, .pinned], laidTests := true, laidLooks := .later }
def FnExactGoalReadUptoCardSaid : Prop := Claim7.holds Tryz.pinned (.plain (OpenSpec.upto fnExactGoalReadSpec)) fnExactGoalReadUptoCard

/-- THE SECOND FORM's CARD OF 'laws.FnGoalText'. -/
def fnGoalTextUptoCard : Claim7 := { stood := { row := fnGoalTextUptoRow, standIns := [], harness := (true, "740c88b13215636d498bb43344aa69702e7143c5b4065a851c4e7dd881474822"), looks := true }, kinds := [], alts := [], laidByText := true, laidKinds := [.data, .data, .data, .data, .sentinel, .sentinel, .pinned], laidTests := true, laidLooks := .later }
def FnGoalTextUptoCardSaid : Prop := Claim7.holds Tryz.pinned (.plain (OpenSpec.upto fnGoalTextSpec)) fnGoalTextUptoCard

/-- THE SECOND FORM's CARD OF 'laws.FnExactPrgRead'. -/
def fnExactPrgReadUptoCard : Claim7 := { stood := { row := fnExactPrgReadUptoRow, standIns := [], harness := (true, "740c88b13215636d498bb43344aa69702e7143c5b4065a851c4e7dd881474822"), looks := true }, kinds := [], alts := [], laidByText := true, laidKinds := [.data, .data, .data, .data, .sentinel, .sentinel, .pinned], laidTests := true, laidLooks := .later }
def FnExactPrgReadUptoCardSaid : Prop := Claim7.holds Tryz.pinned (.plain (OpenSpec.upto fnExactPrgReadSpec)) fnExactPrgReadUptoCard
end Rows
end Go.Proofs.YtlhniagacegbeaaGreatDoor
