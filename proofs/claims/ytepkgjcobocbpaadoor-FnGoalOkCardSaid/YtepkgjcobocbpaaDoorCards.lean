/-
  DERIVED. GIVEN WITH THE SEED: THE CARDS: each row of YtepkgjcobocbpaaDoorRows.lean that lists a variable, with what it lists TIED to the program's text (the seventh form; the later family's looks); each row that meets fmt, with fmt's text TOLD by the authors' own Lean function (tested against real Go, not proved from fmt's source: count such statements apart). THE CARD IS WHAT COUNTS. Prove the row's statement (the work); the ties are given (YtepkgjcobocbpaaDoorTie.lean); close each card by the builder's one call (the guide's Derived/Test/ToyasCard.lean, 'card_holds'). Laid BY PROGRAM, IN A SANDBOX (cutbox-door.mjs). By AI agents, Wed Nov 11 2026. No macro, syntax, notation, axiom, sorry.
-/
import Derived.Test.YtepkgjcobocbpaaDoorRows
import GoSem.ClaimSeven
namespace Go.Proofs.YtepkgjcobocbpaaDoor
namespace Rows

/-- THE TIED CARD OF 'laws.FnExactPrgNode'. -/
def fnExactPrgNodeCard : Claim7 := { stood := { row := fnExactPrgNodeRow, standIns := [], harness := (true, "48d0c548638a01b7c85a5e86b2b4dd7043d272fdd9b8b6d95b3fed4f4d880dec"), looks := false }, kinds := [], alts := [], laidByText := true, laidKinds := [.data, .pinned], laidTests := true, laidLooks := .later }
def FnExactPrgNodeCardSaid : Prop := Claim7.holds Tryd.pinned (.plain (OpenSpec.ofChange fnExactPrgNodeSpec)) fnExactPrgNodeCard

/-- THE TIED CARD OF 'laws.FnGoalOk'. -/
def fnGoalOkCard : Claim7 := { stood := { row := fnGoalOkRow, standIns := [], harness := (true, "48d0c548638a01b7c85a5e86b2b4dd7043d272fdd9b8b6d95b3fed4f4d880dec"), looks := false }, kinds := [], alts := [], laidByText := true, laidKinds := [.data, .pinned], laidTests := true, laidLooks := .later }
def FnGoalOkCardSaid : Prop := Claim7.holds Tryd.pinned (.plain (OpenSpec.ofChange fnGoalOkSpec)) fnGoalOkCard

/-- THE TIED CARD OF 'laws.FnExactTrmMake'. -/
def fnExactTrmMakeCard : Claim7 := { stood := { row := fnExactTrmMakeRow, standIns := [], harness := (true, "48d0c548638a01b7c85a5e86b2b4dd7043d272fdd9b8b6d95b3fed4f4d880dec"), looks := false }, kinds := [], alts := [], laidByText := true, laidKinds := [.data, .pinned], laidTests := true, laidLooks := .later }
def FnExactTrmMakeCardSaid : Prop := Claim7.holds Tryd.pinned (.plain (OpenSpec.ofChange fnExactTrmMakeSpec)) fnExactTrmMakeCard

/-- THE SECOND FORM's CARD OF 'laws.FnExactPrgNode'. -/
def fnExactPrgNodeUptoCard : Claim7 := { stood := { row := fnExactPrgNodeUptoRow, standIns := [], harness := (true, "48d0c548638a01b7c85a5e86b2b4dd7043d272fdd9b8b6d95b3fed4f4d880dec"), looks := false }, kinds := [], alts := [], laidByText := true, laidKinds := [.data, .pinned], laidTests := true, laidLooks := .later }
def FnExactPrgNodeUptoCardSaid : Prop := Claim7.holds Tryd.pinned (.plain (OpenSpec.upto fnExactPrgNodeSpec)) fnExactPrgNodeUptoCard

/-- THE SECOND FORM's CARD OF 'laws.FnGoalOk'. -/
def fnGoalOkUptoCard : Claim7 := { stood := { row := fnGoalOkUptoRow, standIns := [], harness := (true, "48d0c548638a01b7c85a5e86b2b4dd7043d272fdd9b8b6d95b3fed4f4d880dec"), looks := false }, kinds := [], alts := [], laidByText := true, laidKinds := [.data, .pinned], laidTests := true, laidLooks := .later }
def FnGoalOkUptoCardSaid : Prop := Claim7.holds Tryd.pinned (.plain (OpenSpec.upto fnGoalOkSpec)) fnGoalOkUptoCard

/-- THE SECOND FORM's CARD OF 'laws.FnExactTrmMake'. -/
def fnExactTrmMakeUptoCard : Claim7 := { stood := { row := fnExactTrmMakeUptoRow, standIns := [], harness := (true, "48d0c548638a01b7c85a5e86b2b4dd7043d272fdd9b8b6d95b3fed4f4d880dec"), looks := false }, kinds := [], alts := [], laidByText := true, laidKinds := [.data, .pinned], laidTests := true, laidLooks := .later }
def FnExactTrmMakeUptoCardSaid : Prop := Claim7.holds Tryd.pinned (.plain (OpenSpec.upto fnExactTrmMakeSpec)) fnExactTrmMakeUptoCard
end Rows
end Go.Proofs.YtepkgjcobocbpaaDoor
