/-
  DERIVED. GIVEN WITH THE SEED: THE CARDS: each row of YtlmeookaanjdiaaDoorRows.lean that lists a variable, with what it lists TIED to the program's text (the seventh form; the later family's looks); each row that meets fmt, with fmt's text TOLD by the authors' own Lean function (tested against real Go, not proved from fmt's source: count such statements apart). THE CARD IS WHAT COUNTS. Prove the row's statement (the work); the ties are given (YtlmeookaanjdiaaDoorTie.lean); close each card by the builder's one call (the guide's Derived/Test/ToyasCard.lean, 'card_holds'). Laid BY PROGRAM, IN A SANDBOX (cutbox-door.mjs). By AI agents, Wed Nov 11 2026. No macro, syntax, notation, axiom, sorry.
-/
import Derived.Test.YtlmeookaanjdiaaDoorRows
import GoSem.ClaimSeven
namespace Go.Proofs.YtlmeookaanjdiaaDoor
namespace Rows

/-- THE TIED CARD OF 'laws.FnExactTrmOk'. -/
def fnExactTrmOkCard : Claim7 := { stood := { row := fnExactTrmOkRow, standIns := [], harness := (true, "a501c2ab492a422e7f50fa6eccaeb63a40faa7a86304c4b639f412465e0333ec"), looks := false }, kinds := [], alts := [], laidByText := true, laidKinds := [.data, .pinned], laidTests := true, laidLooks := .later }
def FnExactTrmOkCardSaid : Prop := Claim7.holds Tryd.pinned (.plain (OpenSpec.ofChange fnExactTrmOkSpec)) fnExactTrmOkCard

/-- THE TIED CARD OF 'laws.FnTrmFree'. -/
def fnTrmFreeCard : Claim7 := { stood := { row := fnTrmFreeRow, standIns := [], harness := (true, "a501c2ab492a422e7f50fa6eccaeb63a40faa7a86304c4b639f412465e0333ec"), looks := false }, kinds := [], alts := [], laidByText := true, laidKinds := [.data, .pinned], laidTests := true, laidLooks := .later }
def FnTrmFreeCardSaid : Prop := Claim7.holds Tryd.pinned (.plain (OpenSpec.ofChange fnTrmFreeSpec)) fnTrmFreeCard

/-- THE TIED CARD OF 'laws.FnTrmWhole'. -/
def fnTrmWholeCard : Claim7 := { stood := { row := fnTrmWholeRow, standIns := [], harness := (true, "a501c2ab492a422e7f50fa6eccaeb63a40faa7a86304c4b639f412465e0333ec"), looks := false }, kinds := [], alts := [], laidByText := true, laidKinds := [.data, .pinned], laidTests := true, laidLooks := .later }
def FnTrmWholeCardSaid : Prop := Claim7.holds Tryd.pinned (.plain (OpenSpec.ofChange fnTrmWholeSpec)) fnTrmWholeCard

/-- THE TIED CARD OF 'laws.FnExactTrmArg'. -/
def fnExactTrmArgCard : Claim7 := { stood := { row := fnExactTrmArgRow, standIns := [], harness := (true, "a501c2ab492a422e7f50fa6eccaeb63a40faa7a86304c4b639f412465e0333ec"), looks := false }, kinds := [], alts := [], laidByText := true, laidKinds := [.data, .pinned], laidTests := true, laidLooks := .later }
def FnExactTrmArgCardSaid : Prop := Claim7.holds Tryd.pinned (.plain (OpenSpec.ofChange fnExactTrmArgSpec)) fnExactTrmArgCard

/-- THE TIED CARD OF 'laws.FnExactGoalOk'. -/
def fnExactGoalOkCard : Claim7 := { stood := { row := fnExactGoalOkRow, standIns := [], harness := (true, "a501c2ab492a422e7f50fa6eccaeb63a40faa7a86304c4b639f412465e0333ec"), looks := false }, kinds := [], alts := [], laidByText := true, laidKinds := [.data, .pinned], laidTests := true, laidLooks := .later }
def FnExactGoalOkCardSaid : Prop := Claim7.holds Tryd.pinned (.plain (OpenSpec.ofChange fnExactGoalOkSpec)) fnExactGoalOkCard

/-- THE TIED CARD OF 'laws.FnTrmShift'. -/
def fnTrmShiftCard : Claim7 := { stood := { row := fnTrmShiftRow, standIns := [], harness := (true, "a501c2ab492a422e7f50fa6eccaeb63a40faa7a86304c4b639f412465e0333ec"), looks := false }, kinds := [], alts := [], laidByText := true, laidKinds := [.data, .pinned], laidTests := true, laidLooks := .later }
def FnTrmShiftCardSaid : Prop := Claim7.holds Tryd.pinned (.plain (OpenSpec.ofChange fnTrmShiftSpec)) fnTrmShiftCard

/-- THE TIED CARD OF 'laws.FnExactTrmShift'. -/
def fnExactTrmShiftCard : Claim7 := { stood := { row := fnExactTrmShiftRow, standIns := [], harness := (true, "a501c2ab492a422e7f50fa6eccaeb63a40faa7a86304c4b639f412465e0333ec"), looks := false }, kinds := [], alts := [], laidByText := true, laidKinds := [.data, .pinned], laidTests := true, laidLooks := .later }
def FnExactTrmShiftCardSaid : Prop := Claim7.holds Tryd.pinned (.plain (OpenSpec.ofChange fnExactTrmShiftSpec)) fnExactTrmShiftCard

/-- THE TIED CARD OF 'laws.FnTrmArgs'. -/
def fnTrmArgsCard : Claim7 := { stood := { row := fnTrmArgsRow, standIns := [], harness := (true, "a501c2ab492a422e7f50fa6eccaeb63a40faa7a86304c4b639f412465e0333ec"), looks := false }, kinds := [], alts := [], laidByText := true, laidKinds := [.data, .pinned], laidTests := true, laidLooks := .later }
def FnTrmArgsCardSaid : Prop := Claim7.holds Tryd.pinned (.plain (OpenSpec.ofChange fnTrmArgsSpec)) fnTrmArgsCard

/-- THE TIED CARD OF 'laws.FnTrmArg'. -/
def fnTrmArgCard : Claim7 := { stood := { row := fnTrmArgRow, standIns := [], harness := (true, "a501c2ab492a422e7f50fa6eccaeb63a40faa7a86304c4b639f412465e0333ec"), looks := false }, kinds := [], alts := [], laidByText := true, laidKinds := [.data, .pinned], laidTests := true, laidLooks := .later }
def FnTrmArgCardSaid : Prop := Claim7.holds Tryd.pinned (.plain (OpenSpec.ofChange fnTrmArgSpec)) fnTrmArgCard

/-- THE TIED CARD OF 'laws.FnTrmMake'. -/
def fnTrmMakeCard : Claim7 := { stood := { row := fnTrmMakeRow, standIns := [], harness := (true, "a501c2ab492a422e7f50fa6eccaeb63a40faa7a86304c4b639f412465e0333ec"), looks := false }, kinds := [], alts := [], laidByText := true, laidKinds := [.data, .pinned], laidTests := true, laidLooks := .later }
def FnTrmMakeCardSaid : Prop := Claim7.holds Tryd.pinned (.plain (OpenSpec.ofChange fnTrmMakeSpec)) fnTrmMakeCard

/-- THE TIED CARD OF 'laws.FnTrmRenamed'. -/
def fnTrmRenamedCard : Claim7 := { stood := { row := fnTrmRenamedRow, standIns := [], harness := (true, "a501c2ab492a422e7f50fa6eccaeb63a40faa7a86304c4b639f412465e0333ec"), looks := false }, kinds := [], alts := [], laidByText := true, laidKinds := [.data, .pinned], laidTests := true, laidLooks := .later }
def FnTrmRenamedCardSaid : Prop := Claim7.holds Tryd.pinned (.plain (OpenSpec.ofChange fnTrmRenamedSpec)) fnTrmRenamedCard

/-- THE TIED CARD OF 'laws.FnExactTrmMake'. -/
def fnExactTrmMakeCard : Claim7 := { stood := { row := fnExactTrmMakeRow, standIns := [], harness := (true, "a501c2ab492a422e7f50fa6eccaeb63a40faa7a86304c4b639f412465e0333ec"), looks := false }, kinds := [], alts := [], laidByText := true, laidKinds := [.data, .pinned], laidTests := true, laidLooks := .later }
def FnExactTrmMakeCardSaid : Prop := Claim7.holds Tryd.pinned (.plain (OpenSpec.ofChange fnExactTrmMakeSpec)) fnExactTrmMakeCard

/-- THE TIED CARD OF 'laws.FnGoalOk'. -/
def fnGoalOkCard : Claim7 := { stood := { row := fnGoalOkRow, standIns := [], harness := (true, "a501c2ab492a422e7f50fa6eccaeb63a40faa7a86304c4b639f412465e0333ec"), looks := false }, kinds := [], alts := [], laidByText := true, laidKinds := [.data, .pinned], laidTests := true, laidLooks := .later }
def FnGoalOkCardSaid : Prop := Claim7.holds Tryd.pinned (.plain (OpenSpec.ofChange fnGoalOkSpec)) fnGoalOkCard

/-- THE TIED CARD OF 'laws.FnTrmCanon'. -/
def fnTrmCanonCard : Claim7 := { stood := { row := fnTrmCanonRow, standIns := [], harness := (true, "a501c2ab492a422e7f50fa6eccaeb63a40faa7a86304c4b639f412465e0333ec"), looks := false }, kinds := [], alts := [], laidByText := true, laidKinds := [.data, .pinned], laidTests := true, laidLooks := .later }
def FnTrmCanonCardSaid : Prop := Claim7.holds Tryd.pinned (.plain (OpenSpec.ofChange fnTrmCanonSpec)) fnTrmCanonCard

/-- THE TIED CARD OF 'laws.FnExactPrgOk'. -/
def fnExactPrgOkCard : Claim7 := { stood := { row := fnExactPrgOkRow, standIns := [], harness := (true, "a501c2ab492a422e7f50fa6eccaeb63a40faa7a86304c4b639f412465e0333ec"), looks := false }, kinds := [], alts := [], laidByText := true, laidKinds := [.data, .pinned], laidTests := true, laidLooks := .later }
def FnExactPrgOkCardSaid : Prop := Claim7.holds Tryd.pinned (.plain (OpenSpec.ofChange fnExactPrgOkSpec)) fnExactPrgOkCard

/-- THE TIED CARD OF 'laws.FnExactPrgNode'. -/
def fnExactPrgNodeCard : Claim7 := { stood := { row := fnExactPrgNodeRow, standIns := [], harness := (true, "a501c2ab492a422e7f50fa6eccaeb63a40faa7a86304c4b639f412465e0333ec"), looks := false }, kinds := [], alts := [], laidByText := true, laidKinds := [.data, .pinned], laidTests := true, laidLooks := .later }
def FnExactPrgNodeCardSaid : Prop := Claim7.holds Tryd.pinned (.plain (OpenSpec.ofChange fnExactPrgNodeSpec)) fnExactPrgNodeCard

/-- THE SECOND FORM's CARD OF 'laws.FnExactTrmOk'. -/
def fnExactTrmOkUptoCard : Claim7 := { stood := { row := fnExactTrmOkUptoRow, standIns := [], harness := (true, "a501c2ab492a422e7f50fa6eccaeb63a40faa7a86304c4b639f412465e0333ec"), looks := false }, kinds := [], alts := [], laidByText := true, laidKinds := [.data, .pinned], laidTests := true, laidLooks := .later }
def FnExactTrmOkUptoCardSaid : Prop := Claim7.holds Tryd.pinned (.plain (OpenSpec.upto fnExactTrmOkSpec)) fnExactTrmOkUptoCard

/-- THE SECOND FORM's CARD OF 'laws.FnTrmFree'. -/
def fnTrmFreeUptoCard : Claim7 := { stood := { row := fnTrmFreeUptoRow, standIns := [], harness := (true, "a501c2ab492a422e7f50fa6eccaeb63a40faa7a86304c4b639f412465e0333ec"), looks := false }, kinds := [], alts := [], laidByText := true, laidKinds := [.data, .pinned], laidTests := true, laidLooks := .later }
def FnTrmFreeUptoCardSaid : Prop := Claim7.holds Tryd.pinned (.plain (OpenSpec.upto fnTrmFreeSpec)) fnTrmFreeUptoCard

/-- THE SECOND FORM's CARD OF 'laws.FnTrmWhole'. -/
def fnTrmWholeUptoCard : Claim7 := { stood := { row := fnTrmWholeUptoRow, standIns := [], harness := (true, "a501c2ab492a422e7f50fa6eccaeb63a40faa7a86304c4b639f412465e0333ec"), looks := false }, kinds := [], alts := [], laidByText := true, laidKinds := [.data, .pinned], laidTests := true, laidLooks := .later }
def FnTrmWholeUptoCardSaid : Prop := Claim7.holds Tryd.pinned (.plain (OpenSpec.upto fnTrmWholeSpec)) fnTrmWholeUptoCard

/-- THE SECOND FORM's CARD OF 'laws.FnExactTrmArg'. -/
def fnExactTrmArgUptoCard : Claim7 := { stood := { row := fnExactTrmArgUptoRow, standIns := [], harness := (true, "a501c2ab492a422e7f50fa6eccaeb63a40faa7a86304c4b639f412465e0333ec"), looks := false }, kinds := [], alts := [], laidByText := true, laidKinds := [.data, .pinned], laidTests := true, laidLooks := .later }
def FnExactTrmArgUptoCardSaid : Prop := Claim7.holds Tryd.pinned (.plain (OpenSpec.upto fnExactTrmArgSpec)) fnExactTrmArgUptoCard

/-- THE SECOND FORM's CARD OF 'laws.FnExactGoalOk'. -/
def fnExactGoalOkUptoCard : Claim7 := { stood := { row := fnExactGoalOkUptoRow, standIns := [], harness := (true, "a501c2ab492a422e7f50fa6eccaeb63a40faa7a86304c4b639f412465e0333ec"), looks := false }, kinds := [], alts := [], laidByText := true, laidKinds := [.data, .pinned], laidTests := true, laidLooks := .later }
def FnExactGoalOkUptoCardSaid : Prop := Claim7.holds Tryd.pinned (.plain (OpenSpec.upto fnExactGoalOkSpec)) fnExactGoalOkUptoCard

/-- THE SECOND FORM's CARD OF 'laws.FnTrmShift'. -/
def fnTrmShiftUptoCard : Claim7 := { stood := { row := fnTrmShiftUptoRow, standIns := [], harness := (true, "a501c2ab492a422e7f50fa6eccaeb63a40faa7a86304c4b639f412465e0333ec"), looks := false }, kinds := [], alts := [], laidByText := true, laidKinds := [.data, .pinned], laidTests := true, laidLooks := .later }
def FnTrmShiftUptoCardSaid : Prop := Claim7.holds Tryd.pinned (.plain (OpenSpec.upto fnTrmShiftSpec)) fnTrmShiftUptoCard

/-- THE SECOND FORM's CARD OF 'laws.FnExactTrmShift'. -/
def fnExactTrmShiftUptoCard : Claim7 := { stood := { row := fnExactTrmShiftUptoRow, standIns := [], harness := (true, "a501c2ab492a422e7f50fa6eccaeb63a40faa7a86304c4b639f412465e0333ec"), looks := false }, kinds := [], alts := [], laidByText := true, laidKinds := [.data, .pinned], laidTests := true, laidLooks := .later }
def FnExactTrmShiftUptoCardSaid : Prop := Claim7.holds Tryd.pinned (.plain (OpenSpec.upto fnExactTrmShiftSpec)) fnExactTrmShiftUptoCard

/-- THE SECOND FORM's CARD OF 'laws.FnTrmArgs'. -/
def fnTrmArgsUptoCard : Claim7 := { stood := { row := fnTrmArgsUptoRow, standIns := [], harness := (true, "a501c2ab492a422e7f50fa6eccaeb63a40faa7a86304c4b639f412465e0333ec"), looks := false }, kinds := [], alts := [], laidByText := true, laidKinds := [.data, .pinned], laidTests := true, laidLooks := .later }
def FnTrmArgsUptoCardSaid : Prop := Claim7.holds Tryd.pinned (.plain (OpenSpec.upto fnTrmArgsSpec)) fnTrmArgsUptoCard

/-- THE SECOND FORM's CARD OF 'laws.FnTrmArg'. -/
def fnTrmArgUptoCard : Claim7 := { stood := { row := fnTrmArgUptoRow, standIns := [], harness := (true, "a501c2ab492a422e7f50fa6eccaeb63a40faa7a86304c4b639f412465e0333ec"), looks := false }, kinds := [], alts := [], laidByText := true, laidKinds := [.data, .pinned], laidTests := true, laidLooks := .later }
def FnTrmArgUptoCardSaid : Prop := Claim7.holds Tryd.pinned (.plain (OpenSpec.upto fnTrmArgSpec)) fnTrmArgUptoCard

/-- THE SECOND FORM's CARD OF 'laws.FnTrmMake'. -/
def fnTrmMakeUptoCard : Claim7 := { stood := { row := fnTrmMakeUptoRow, standIns := [], harness := (true, "a501c2ab492a422e7f50fa6eccaeb63a40faa7a86304c4b639f412465e0333ec"), looks := false }, kinds := [], alts := [], laidByText := true, laidKinds := [.data, .pinned], laidTests := true, laidLooks := .later }
def FnTrmMakeUptoCardSaid : Prop := Claim7.holds Tryd.pinned (.plain (OpenSpec.upto fnTrmMakeSpec)) fnTrmMakeUptoCard

/-- THE SECOND FORM's CARD OF 'laws.FnTrmRenamed'. -/
def fnTrmRenamedUptoCard : Claim7 := { stood := { row := fnTrmRenamedUptoRow, standIns := [], harness := (true, "a501c2ab492a422e7f50fa6eccaeb63a40faa7a86304c4b639f412465e0333ec"), looks := false }, kinds := [], alts := [], laidByText := true, laidKinds := [.data, .pinned], laidTests := true, laidLooks := .later }
def FnTrmRenamedUptoCardSaid : Prop := Claim7.holds Tryd.pinned (.plain (OpenSpec.upto fnTrmRenamedSpec)) fnTrmRenamedUptoCard

/-- THE SECOND FORM's CARD OF 'laws.FnExactTrmMake'. -/
def fnExactTrmMakeUptoCard : Claim7 := { stood := { row := fnExactTrmMakeUptoRow, standIns := [], harness := (true, "a501c2ab492a422e7f50fa6eccaeb63a40faa7a86304c4b639f412465e0333ec"), looks := false }, kinds := [], alts := [], laidByText := true, laidKinds := [.data, .pinned], laidTests := true, laidLooks := .later }
def FnExactTrmMakeUptoCardSaid : Prop := Claim7.holds Tryd.pinned (.plain (OpenSpec.upto fnExactTrmMakeSpec)) fnExactTrmMakeUptoCard

/-- THE SECOND FORM's CARD OF 'laws.FnGoalOk'. -/
def fnGoalOkUptoCard : Claim7 := { stood := { row := fnGoalOkUptoRow, standIns := [], harness := (true, "a501c2ab492a422e7f50fa6eccaeb63a40faa7a86304c4b639f412465e0333ec"), looks := false }, kinds := [], alts := [], laidByText := true, laidKinds := [.data, .pinned], laidTests := true, laidLooks := .later }
def FnGoalOkUptoCardSaid : Prop := Claim7.holds Tryd.pinned (.plain (OpenSpec.upto fnGoalOkSpec)) fnGoalOkUptoCard

/-- THE SECOND FORM's CARD OF 'laws.FnTrmCanon'. -/
def fnTrmCanonUptoCard : Claim7 := { stood := { row := fnTrmCanonUptoRow, standIns := [], harness := (true, "a501c2ab492a422e7f50fa6eccaeb63a40faa7a86304c4b639f412465e0333ec"), looks := false }, kinds := [], alts := [], laidByText := true, laidKinds := [.data, .pinned], laidTests := true, laidLooks := .later }
def FnTrmCanonUptoCardSaid : Prop := Claim7.holds Tryd.pinned (.plain (OpenSpec.upto fnTrmCanonSpec)) fnTrmCanonUptoCard

/-- THE SECOND FORM's CARD OF 'laws.FnExactPrgOk'. -/
def fnExactPrgOkUptoCard : Claim7 := { stood := { row := fnExactPrgOkUptoRow, standIns := [], harness := (true, "a501c2ab492a422e7f50fa6eccaeb63a40faa7a86304c4b639f412465e0333ec"), looks := false }, kinds := [], alts := [], laidByText := true, laidKinds := [.data, .pinned], laidTests := true, laidLooks := .later }
def FnExactPrgOkUptoCardSaid : Prop := Claim7.holds Tryd.pinned (.plain (OpenSpec.upto fnExactPrgOkSpec)) fnExactPrgOkUptoCard

/-- THE SECOND FORM's CARD OF 'laws.FnExactPrgNode'. -/
def fnExactPrgNodeUptoCard : Claim7 := { stood := { row := fnExactPrgNodeUptoRow, standIns := [], harness := (true, "a501c2ab492a422e7f50fa6eccaeb63a40faa7a86304c4b639f412465e0333ec"), looks := false }, kinds := [], alts := [], laidByText := true, laidKinds := [.data, .pinned], laidTests := true, laidLooks := .later }
def FnExactPrgNodeUptoCardSaid : Prop := Claim7.holds Tryd.pinned (.plain (OpenSpec.upto fnExactPrgNodeSpec)) fnExactPrgNodeUptoCard
end Rows
end Go.Proofs.YtlmeookaanjdiaaDoor
