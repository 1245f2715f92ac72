/-
  DERIVED. GIVEN WITH THE SEED: THE CARDS: each row of YtlaicnoikeieeaaDoorRows.lean that lists a variable, with what it lists TIED to the program's text (the seventh form; the later family's looks); each row that meets fmt, with fmt's text TOLD by the authors' own Lean function (tested against real Go, not proved from fmt's source: count such statements apart). THE CARD IS WHAT COUNTS. Prove the row's statement (the work); the ties are given (YtlaicnoikeieeaaDoorTie.lean); close each card by the builder's one call (the guide's Derived/Test/ToyasCard.lean, 'card_holds'). Laid BY PROGRAM, IN A SANDBOX (cutbox-door.mjs). By AI agents, Wed Nov 11 2026. No macro, syntax, notation, axiom, sorry.
-/
import Derived.Test.YtlaicnoikeieeaaDoorRows
import GoSem.ClaimSeven
namespace Go.Proofs.YtlaicnoikeieeaaDoor
namespace Rows

/-- THE TIED CARD OF 'laws.FnSubGet'. -/
def fnSubGetCard : Claim7 := { stood := { row := fnSubGetRow, standIns := [], harness := (true, "ed435f005494ea716374a3a1548e7a1b6843c0d957f7a9b453338a6fc2451de0"), looks := false }, kinds := [], alts := [], laidByText := true, laidKinds := [.data, .pinned], laidTests := true, laidLooks := .later }
def FnSubGetCardSaid : Prop := Claim7.holds Tryd.pinned (.plain (OpenSpec.ofChange fnSubGetSpec)) fnSubGetCard

/-- THE TIED CARD OF 'laws.FnExactSubOk'. -/
def fnExactSubOkCard : Claim7 := { stood := { row := fnExactSubOkRow, standIns := [], harness := (true, "ed435f005494ea716374a3a1548e7a1b6843c0d957f7a9b453338a6fc2451de0"), looks := false }, kinds := [], alts := [], laidByText := true, laidKinds := [.data, .pinned], laidTests := true, laidLooks := .later }
def FnExactSubOkCardSaid : Prop := Claim7.holds Tryd.pinned (.plain (OpenSpec.ofChange fnExactSubOkSpec)) fnExactSubOkCard

/-- THE TIED CARD OF 'laws.FnSubOk'. -/
def fnSubOkCard : Claim7 := { stood := { row := fnSubOkRow, standIns := [], harness := (true, "ed435f005494ea716374a3a1548e7a1b6843c0d957f7a9b453338a6fc2451de0"), looks := false }, kinds := [], alts := [], laidByText := true, laidKinds := [.data, .pinned], laidTests := true, laidLooks := .later }
def FnSubOkCardSaid : Prop := Claim7.holds Tryd.pinned (.plain (OpenSpec.ofChange fnSubOkSpec)) fnSubOkCard

/-- THE TIED CARD OF 'laws.FnSubVar'. -/
def fnSubVarCard : Claim7 := { stood := { row := fnSubVarRow, standIns := [], harness := (true, "ed435f005494ea716374a3a1548e7a1b6843c0d957f7a9b453338a6fc2451de0"), looks := false }, kinds := [], alts := [], laidByText := true, laidKinds := [.data, .pinned], laidTests := true, laidLooks := .later }
def FnSubVarCardSaid : Prop := Claim7.holds Tryd.pinned (.plain (OpenSpec.ofChange fnSubVarSpec)) fnSubVarCard

/-- THE TIED CARD OF 'laws.FnExactSubFull'. -/
def fnExactSubFullCard : Claim7 := { stood := { row := fnExactSubFullRow, standIns := [], harness := (true, "ed435f005494ea716374a3a1548e7a1b6843c0d957f7a9b453338a6fc2451de0"), looks := false }, kinds := [], alts := [], laidByText := true, laidKinds := [.data, .pinned], laidTests := true, laidLooks := .later }
def FnExactSubFullCardSaid : Prop := Claim7.holds Tryd.pinned (.plain (OpenSpec.ofChange fnExactSubFullSpec)) fnExactSubFullCard

/-- THE TIED CARD OF 'laws.FnSubFull'. -/
def fnSubFullCard : Claim7 := { stood := { row := fnSubFullRow, standIns := [], harness := (true, "ed435f005494ea716374a3a1548e7a1b6843c0d957f7a9b453338a6fc2451de0"), looks := false }, kinds := [], alts := [], laidByText := true, laidKinds := [.data, .pinned], laidTests := true, laidLooks := .later }
def FnSubFullCardSaid : Prop := Claim7.holds Tryd.pinned (.plain (OpenSpec.ofChange fnSubFullSpec)) fnSubFullCard

/-- THE TIED CARD OF 'laws.FnSubMost'. -/
def fnSubMostCard : Claim7 := { stood := { row := fnSubMostRow, standIns := [], harness := (true, "ed435f005494ea716374a3a1548e7a1b6843c0d957f7a9b453338a6fc2451de0"), looks := false }, kinds := [], alts := [], laidByText := true, laidKinds := [.data, .pinned], laidTests := true, laidLooks := .later }
def FnSubMostCardSaid : Prop := Claim7.holds Tryd.pinned (.plain (OpenSpec.ofChange fnSubMostSpec)) fnSubMostCard

/-- THE TIED CARD OF 'laws.FnSubAgain'. -/
def fnSubAgainCard : Claim7 := { stood := { row := fnSubAgainRow, standIns := [], harness := (true, "ed435f005494ea716374a3a1548e7a1b6843c0d957f7a9b453338a6fc2451de0"), looks := false }, kinds := [], alts := [], laidByText := true, laidKinds := [.data, .pinned], laidTests := true, laidLooks := .later }
def FnSubAgainCardSaid : Prop := Claim7.holds Tryd.pinned (.plain (OpenSpec.ofChange fnSubAgainSpec)) fnSubAgainCard

/-- THE TIED CARD OF 'laws.FnSubSwap'. -/
def fnSubSwapCard : Claim7 := { stood := { row := fnSubSwapRow, standIns := [], harness := (true, "ed435f005494ea716374a3a1548e7a1b6843c0d957f7a9b453338a6fc2451de0"), looks := false }, kinds := [], alts := [], laidByText := true, laidKinds := [.data, .pinned], laidTests := true, laidLooks := .later }
def FnSubSwapCardSaid : Prop := Claim7.holds Tryd.pinned (.plain (OpenSpec.ofChange fnSubSwapSpec)) fnSubSwapCard

/-- THE TIED CARD OF 'laws.FnSubArgs'. -/
def fnSubArgsCard : Claim7 := { stood := { row := fnSubArgsRow, standIns := [], harness := (true, "ed435f005494ea716374a3a1548e7a1b6843c0d957f7a9b453338a6fc2451de0"), looks := false }, kinds := [], alts := [], laidByText := true, laidKinds := [.data, .pinned], laidTests := true, laidLooks := .later }
def FnSubArgsCardSaid : Prop := Claim7.holds Tryd.pinned (.plain (OpenSpec.ofChange fnSubArgsSpec)) fnSubArgsCard

/-- THE TIED CARD OF 'laws.FnSubApart'. -/
def fnSubApartCard : Claim7 := { stood := { row := fnSubApartRow, standIns := [], harness := (true, "ed435f005494ea716374a3a1548e7a1b6843c0d957f7a9b453338a6fc2451de0"), looks := false }, kinds := [], alts := [], laidByText := true, laidKinds := [.data, .pinned], laidTests := true, laidLooks := .later }
def FnSubApartCardSaid : Prop := Claim7.holds Tryd.pinned (.plain (OpenSpec.ofChange fnSubApartSpec)) fnSubApartCard

/-- THE TIED CARD OF 'laws.FnSubGround'. -/
def fnSubGroundCard : Claim7 := { stood := { row := fnSubGroundRow, standIns := [], harness := (true, "ed435f005494ea716374a3a1548e7a1b6843c0d957f7a9b453338a6fc2451de0"), looks := false }, kinds := [], alts := [], laidByText := true, laidKinds := [.data, .pinned], laidTests := true, laidLooks := .later }
def FnSubGroundCardSaid : Prop := Claim7.holds Tryd.pinned (.plain (OpenSpec.ofChange fnSubGroundSpec)) fnSubGroundCard

/-- THE TIED CARD OF 'laws.FnSubUnify'. -/
def fnSubUnifyCard : Claim7 := { stood := { row := fnSubUnifyRow, standIns := [], harness := (true, "ed435f005494ea716374a3a1548e7a1b6843c0d957f7a9b453338a6fc2451de0"), looks := false }, kinds := [], alts := [], laidByText := true, laidKinds := [.data, .pinned], laidTests := true, laidLooks := .later }
def FnSubUnifyCardSaid : Prop := Claim7.holds Tryd.pinned (.plain (OpenSpec.ofChange fnSubUnifySpec)) fnSubUnifyCard

/-- THE TIED CARD OF 'laws.FnExactSubUnify'. -/
def fnExactSubUnifyCard : Claim7 := { stood := { row := fnExactSubUnifyRow, standIns := [], harness := (true, "ed435f005494ea716374a3a1548e7a1b6843c0d957f7a9b453338a6fc2451de0"), looks := false }, kinds := [], alts := [], laidByText := true, laidKinds := [.data, .pinned], laidTests := true, laidLooks := .later }
def FnExactSubUnifyCardSaid : Prop := Claim7.holds Tryd.pinned (.plain (OpenSpec.ofChange fnExactSubUnifySpec)) fnExactSubUnifyCard

/-- THE TIED CARD OF 'laws.FnSubTwo'. -/
def fnSubTwoCard : Claim7 := { stood := { row := fnSubTwoRow, standIns := [], harness := (true, "ed435f005494ea716374a3a1548e7a1b6843c0d957f7a9b453338a6fc2451de0"), looks := false }, kinds := [], alts := [], laidByText := true, laidKinds := [.data, .pinned], laidTests := true, laidLooks := .later }
def FnSubTwoCardSaid : Prop := Claim7.holds Tryd.pinned (.plain (OpenSpec.ofChange fnSubTwoSpec)) fnSubTwoCard

/-- THE SECOND FORM's CARD OF 'laws.FnSubGet'. -/
def fnSubGetUptoCard : Claim7 := { stood := { row := fnSubGetUptoRow, standIns := [], harness := (true, "ed435f005494ea716374a3a1548e7a1b6843c0d957f7a9b453338a6fc2451de0"), looks := false }, kinds := [], alts := [], laidByText := true, laidKinds := [.data, .pinned], laidTests := true, laidLooks := .later }
def FnSubGetUptoCardSaid : Prop := Claim7.holds Tryd.pinned (.plain (OpenSpec.upto fnSubGetSpec)) fnSubGetUptoCard

/-- THE SECOND FORM's CARD OF 'laws.FnExactSubOk'. -/
def fnExactSubOkUptoCard : Claim7 := { stood := { row := fnExactSubOkUptoRow, standIns := [], harness := (true, "ed435f005494ea716374a3a1548e7a1b6843c0d957f7a9b453338a6fc2451de0"), looks := false }, kinds := [], alts := [], laidByText := true, laidKinds := [.data, .pinned], laidTests := true, laidLooks := .later }
def FnExactSubOkUptoCardSaid : Prop := Claim7.holds Tryd.pinned (.plain (OpenSpec.upto fnExactSubOkSpec)) fnExactSubOkUptoCard

/-- THE SECOND FORM's CARD OF 'laws.FnSubOk'. -/
def fnSubOkUptoCard : Claim7 := { stood := { row := fnSubOkUptoRow, standIns := [], harness := (true, "ed435f005494ea716374a3a1548e7a1b6843c0d957f7a9b453338a6fc2451de0"), looks := false }, kinds := [], alts := [], laidByText := true, laidKinds := [.data, .pinned], laidTests := true, laidLooks := .later }
def FnSubOkUptoCardSaid : Prop := Claim7.holds Tryd.pinned (.plain (OpenSpec.upto fnSubOkSpec)) fnSubOkUptoCard

/-- THE SECOND FORM's CARD OF 'laws.FnSubVar'. -/
def fnSubVarUptoCard : Claim7 := { stood := { row := fnSubVarUptoRow, standIns := [], harness := (true, "ed435f005494ea716374a3a1548e7a1b6843c0d957f7a9b453338a6fc2451de0"), looks := false }, kinds := [], alts := [], laidByText := true, laidKinds := [.data, .pinned], laidTests := true, laidLooks := .later }
def FnSubVarUptoCardSaid : Prop := Claim7.holds Tryd.pinned (.plain (OpenSpec.upto fnSubVarSpec)) fnSubVarUptoCard

/-- THE SECOND FORM's CARD OF 'laws.FnExactSubFull'. -/
def fnExactSubFullUptoCard : Claim7 := { stood := { row := fnExactSubFullUptoRow, standIns := [], harness := (true, "ed435f005494ea716374a3a1548e7a1b6843c0d957f7a9b453338a6fc2451de0"), looks := false }, kinds := [], alts := [], laidByText := true, laidKinds := [.data, .pinned], laidTests := true, laidLooks := .later }
def FnExactSubFullUptoCardSaid : Prop := Claim7.holds Tryd.pinned (.plain (OpenSpec.upto fnExactSubFullSpec)) fnExactSubFullUptoCard

/-- THE SECOND FORM's CARD OF 'laws.FnSubFull'. -/
def fnSubFullUptoCard : Claim7 := { stood := { row := fnSubFullUptoRow, standIns := [], harness := (true, "ed435f005494ea716374a3a1548e7a1b6843c0d957f7a9b453338a6fc2451de0"), looks := false }, kinds := [], alts := [], laidByText := true, laidKinds := [.data, .pinned], laidTests := true, laidLooks := .later }
def FnSubFullUptoCardSaid : Prop := Claim7.holds Tryd.pinned (.plain (OpenSpec.upto fnSubFullSpec)) fnSubFullUptoCard

/-- THE SECOND FORM's CARD OF 'laws.FnSubMost'. -/
def fnSubMostUptoCard : Claim7 := { stood := { row := fnSubMostUptoRow, standIns := [], harness := (true, "ed435f005494ea716374a3a1548e7a1b6843c0d957f7a9b453338a6fc2451de0"), looks := false }, kinds := [], alts := [], laidByText := true, laidKinds := [.data, .pinned], laidTests := true, laidLooks := .later }
def FnSubMostUptoCardSaid : Prop := Claim7.holds Tryd.pinned (.plain (OpenSpec.upto fnSubMostSpec)) fnSubMostUptoCard

/-- THE SECOND FORM's CARD OF 'laws.FnSubAgain'. -/
def fnSubAgainUptoCard : Claim7 := { stood := { row := fnSubAgainUptoRow, standIns := [], harness := (true, "ed435f005494ea716374a3a1548e7a1b6843c0d957f7a9b453338a6fc2451de0"), looks := false }, kinds := [], alts := [], laidByText := true, laidKinds := [.data, .pinned], laidTests := true, laidLooks := .later }
def FnSubAgainUptoCardSaid : Prop := Claim7.holds Tryd.pinned (.plain (OpenSpec.upto fnSubAgainSpec)) fnSubAgainUptoCard

/-- THE SECOND FORM's CARD OF 'laws.FnSubSwap'. -/
def fnSubSwapUptoCard : Claim7 := { stood := { row := fnSubSwapUptoRow, standIns := [], harness := (true, "ed435f005494ea716374a3a1548e7a1b6843c0d957f7a9b453338a6fc2451de0"), looks := false }, kinds := [], alts := [], laidByText := true, laidKinds := [.data, .pinned], laidTests := true, laidLooks := .later }
def FnSubSwapUptoCardSaid : Prop := Claim7.holds Tryd.pinned (.plain (OpenSpec.upto fnSubSwapSpec)) fnSubSwapUptoCard

/-- THE SECOND FORM's CARD OF 'laws.FnSubArgs'. -/
def fnSubArgsUptoCard : Claim7 := { stood := { row := fnSubArgsUptoRow, standIns := [], harness := (true, "ed435f005494ea716374a3a1548e7a1b6843c0d957f7a9b453338a6fc2451de0"), looks := false }, kinds := [], alts := [], laidByText := true, laidKinds := [.data, .pinned], laidTests := true, laidLooks := .later }
def FnSubArgsUptoCardSaid : Prop := Claim7.holds Tryd.pinned (.plain (OpenSpec.upto fnSubArgsSpec)) fnSubArgsUptoCard

/-- THE SECOND FORM's CARD OF 'laws.FnSubApart'. -/
def fnSubApartUptoCard : Claim7 := { stood := { row := fnSubApartUptoRow, standIns := [], harness := (true, "ed435f005494ea716374a3a1548e7a1b6843c0d957f7a9b453338a6fc2451de0"), looks := false }, kinds := [], alts := [], laidByText := true, laidKinds := [.data, .pinned], laidTests := true, laidLooks := .later }
def FnSubApartUptoCardSaid : Prop := Claim7.holds Tryd.pinned (.plain (OpenSpec.upto fnSubApartSpec)) fnSubApartUptoCard

/-- THE SECOND FORM's CARD OF 'laws.FnSubGround'. -/
def fnSubGroundUptoCard : Claim7 := { stood := { row := fnSubGroundUptoRow, standIns := [], harness := (true, "ed435f005494ea716374a3a1548e7a1b6843c0d957f7a9b453338a6fc2451de0"), looks := false }, kinds := [], alts := [], laidByText := true, laidKinds := [.data, .pinned], laidTests := true, laidLooks := .later }
def FnSubGroundUptoCardSaid : Prop := Claim7.holds Tryd.pinned (.plain (OpenSpec.upto fnSubGroundSpec)) fnSubGroundUptoCard

/-- THE SECOND FORM's CARD OF 'laws.FnSubUnify'. -/
def fnSubUnifyUptoCard : Claim7 := { stood := { row := fnSubUnifyUptoRow, standIns := [], harness := (true, "ed435f005494ea716374a3a1548e7a1b6843c0d957f7a9b453338a6fc2451de0"), looks := false }, kinds := [], alts := [], laidByText := true, laidKinds := [.data, .pinned], laidTests := true, laidLooks := .later }
def FnSubUnifyUptoCardSaid : Prop := Claim7.holds Tryd.pinned (.plain (OpenSpec.upto fnSubUnifySpec)) fnSubUnifyUptoCard

/-- THE SECOND FORM's CARD OF 'laws.FnExactSubUnify'. -/
def fnExactSubUnifyUptoCard : Claim7 := { stood := { row := fnExactSubUnifyUptoRow, standIns := [], harness := (true, "ed435f005494ea716374a3a1548e7a1b6843c0d957f7a9b453338a6fc2451de0"), looks := false }, kinds := [], alts := [], laidByText := true, laidKinds := [.data, .pinned], laidTests := true, laidLooks := .later }
def FnExactSubUnifyUptoCardSaid : Prop := Claim7.holds Tryd.pinned (.plain (OpenSpec.upto fnExactSubUnifySpec)) fnExactSubUnifyUptoCard

/-- THE SECOND FORM's CARD OF 'laws.FnSubTwo'. -/
def fnSubTwoUptoCard : Claim7 := { stood := { row := fnSubTwoUptoRow, standIns := [], harness := (true, "ed435f005494ea716374a3a1548e7a1b6843c0d957f7a9b453338a6fc2451de0"), looks := false }, kinds := [], alts := [], laidByText := true, laidKinds := [.data, .pinned], laidTests := true, laidLooks := .later }
def FnSubTwoUptoCardSaid : Prop := Claim7.holds Tryd.pinned (.plain (OpenSpec.upto fnSubTwoSpec)) fnSubTwoUptoCard
end Rows
end Go.Proofs.YtlaicnoikeieeaaDoor
