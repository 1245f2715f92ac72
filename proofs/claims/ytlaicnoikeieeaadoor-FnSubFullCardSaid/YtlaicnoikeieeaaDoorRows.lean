/-
  NARROWER THAN 'FOR EVERY INPUT', by the rows' own cells (each row's printed sentence says how): FnSubGet: laid · FnExactSubOk: laid · FnSubOk: laid · FnSubVar: laid · FnExactSubFull: laid · FnSubFull: laid · FnSubMost: laid · FnSubAgain: laid · FnSubSwap: laid · FnSubArgs: laid · FnSubApart: laid · FnSubGround: laid · FnSubUnify: laid · FnExactSubUnify: laid · FnSubTwo: laid.
  DERIVED. THE GIVEN ROWS OF THIS SEAT. 15 by the template 'for every input the law returns true; each argument reads behind the call as it read before'; 0 by the template 'total and deterministic' (their statements: YtlaicnoikeieeaaDoorTotals.lean).
  GIVEN WITH THE SEED: the statements are not yours to turn. If you find one false, say at which input.
  Laid BY PROGRAM, IN A SANDBOX (cutbox-rows.mjs): the forced cells as the released guide's own fill.sh prints them over the translation b9f2bc85767c7b97… (all of the seat's roots in one cut). By AI agents, Wed Nov 11 2026. No macro, syntax, notation, axiom, sorry.
-/
import Derived.Test.YtlaicnoikeieeaaDoorChecked
import GoSem.PinnedTables
import GoSem.Claim
import GoSem.ClaimJoined
import GoSem.ClaimMapViews
import Derived.JoinedTies
import Derived.KernelRfl
namespace Go.Proofs.YtlaicnoikeieeaaDoor
/- THE CELL 'sum', in the pinned program and in every row, IS THE sha256 OF THE DUMP (.gsa) THAT YtlaicnoikeieeaaDoorProg.lean LOADS. Nothing in Lean hashes anything: it is a label: what it is worth is what the hold of that sum in a sandbox is worth. -/
noncomputable def Tryd.pinned : Pinned := { name := "ytlaicnoikeieeaadoor", sum := "b9f2bc85767c7b979d1064a980060de8472b380478150f47b49b55a3b6ed17b2", checked := Tryd.checked }
namespace Rows
def none {H : Type} : Left H := { results := [], args := [] }

/- WHAT THE LISTED PACKAGE-LEVEL VARIABLES READ AS WHEN THE CALL BEGINS. Each datum BY PROGRAM (the guide's laid-datum.mjs) off the statement by which the dump's own 'gosem.cut.vars' lays the variable. In a bare row this is a premise. The card (YtlaicnoikeieeaaDoorCards.lean) ties it to the program's text. -/
def laid_unicode_utf8_acceptRanges {H : Type} : DataW H := .agg [.agg [.lit (.int .u8 128), .lit (.int .u8 191)], .agg [.lit (.int .u8 160), .lit (.int .u8 191)], .agg [.lit (.int .u8 128), .lit (.int .u8 159)], .agg [.lit (.int .u8 144), .lit (.int .u8 191)], .agg [.lit (.int .u8 128), .lit (.int .u8 143)], .agg [.lit (.int .u8 0), .lit (.int .u8 0)], .agg [.lit (.int .u8 0), .lit (.int .u8 0)], .agg [.lit (.int .u8 0), .lit (.int .u8 0)], .agg [.lit (.int .u8 0), .lit (.int .u8 0)], .agg [.lit (.int .u8 0), .lit (.int .u8 0)], .agg [.lit (.int .u8 0), .lit (.int .u8 0)], .agg [.lit (.int .u8 0), .lit (.int .u8 0)], .agg [.lit (.int .u8 0), .lit (.int .u8 0)], .agg [.lit (.int .u8 0), .lit (.int .u8 0)], .agg [.lit (.int .u8 0), .lit (.int .u8 0)], .agg [.lit (.int .u8 0), .lit (.int .u8 0)]]
/-- One of Go's own tables, pinned by name: the form's constant. -/
def laid_unicode_utf8_first : DataW Unit := Go.Pinned.utf8First

/-- 'laws.FnSubGet': WHATEVER THE INPUT: true; the input reads as it did. -/
def fnSubGetSpec : ChangeSpec := { name := "fnSubGet", fn := fun _ => fun
  | [d] => { results := [.lit (.bool true)], args := [d] }
  | _ => none }
def fnSubGetRow : OpenClaim := { program := "ytlaicnoikeieeaadoor", sum := "b9f2bc85767c7b979d1064a980060de8472b380478150f47b49b55a3b6ed17b2", func := "loop.example/catechist/laws.FnSubGet", spec := "fnSubGet", inPlace := ["internal/bytealg.IndexByteString", "internal/bytealg.IndexString"], unfollowed := true, recurses := true, named := ["unicode/utf8.first", "unicode/utf8.acceptRanges", "internal/bytealg.MaxLen"], apart := false, laid := [("unicode/utf8.acceptRanges", laid_unicode_utf8_acceptRanges), ("unicode/utf8.first", laid_unicode_utf8_first)] }
def FnSubGetSaid : Prop := fnSubGetRow.holds Tryd.pinned (OpenSpec.ofChange fnSubGetSpec)

/-- ITS FALSE NEIGHBOUR: 'it returns false'. Refute it at one input. -/
def fnSubGetWrong : ChangeSpec := { name := "fnSubGet", fn := fun _ => fun
  | [d] => { results := [.lit (.bool false)], args := [d] }
  | _ => none }
def FnSubGetWrongFalsely : Prop := fnSubGetRow.holds Tryd.pinned (OpenSpec.ofChange fnSubGetWrong)

/-- 'laws.FnExactSubOk': WHATEVER THE INPUT: true; the input reads as it did. -/
def fnExactSubOkSpec : ChangeSpec := { name := "fnExactSubOk", fn := fun _ => fun
  | [d] => { results := [.lit (.bool true)], args := [d] }
  | _ => none }
def fnExactSubOkRow : OpenClaim := { program := "ytlaicnoikeieeaadoor", sum := "b9f2bc85767c7b979d1064a980060de8472b380478150f47b49b55a3b6ed17b2", func := "loop.example/catechist/laws.FnExactSubOk", spec := "fnExactSubOk", inPlace := ["internal/bytealg.IndexByteString", "internal/bytealg.IndexString"], unfollowed := true, recurses := true, named := ["unicode/utf8.first", "unicode/utf8.acceptRanges", "internal/bytealg.MaxLen"], apart := false, laid := [("unicode/utf8.acceptRanges", laid_unicode_utf8_acceptRanges), ("unicode/utf8.first", laid_unicode_utf8_first)] }
def FnExactSubOkSaid : Prop := fnExactSubOkRow.holds Tryd.pinned (OpenSpec.ofChange fnExactSubOkSpec)

/-- ITS FALSE NEIGHBOUR: 'it returns false'. Refute it at one input. -/
def fnExactSubOkWrong : ChangeSpec := { name := "fnExactSubOk", fn := fun _ => fun
  | [d] => { results := [.lit (.bool false)], args := [d] }
  | _ => none }
def FnExactSubOkWrongFalsely : Prop := fnExactSubOkRow.holds Tryd.pinned (OpenSpec.ofChange fnExactSubOkWrong)

/-- 'laws.FnSubOk': WHATEVER THE INPUT: true; the input reads as it did. -/
def fnSubOkSpec : ChangeSpec := { name := "fnSubOk", fn := fun _ => fun
  | [d] => { results := [.lit (.bool true)], args := [d] }
  | _ => none }
def fnSubOkRow : OpenClaim := { program := "ytlaicnoikeieeaadoor", sum := "b9f2bc85767c7b979d1064a980060de8472b380478150f47b49b55a3b6ed17b2", func := "loop.example/catechist/laws.FnSubOk", spec := "fnSubOk", inPlace := ["internal/bytealg.IndexByteString", "internal/bytealg.IndexString"], unfollowed := true, recurses := true, named := ["unicode/utf8.first", "unicode/utf8.acceptRanges", "internal/bytealg.MaxLen"], apart := false, laid := [("unicode/utf8.acceptRanges", laid_unicode_utf8_acceptRanges), ("unicode/utf8.first", laid_unicode_utf8_first)] }
def FnSubOkSaid : Prop := fnSubOkRow.holds Tryd.pinned (OpenSpec.ofChange fnSubOkSpec)

/-- ITS FALSE NEIGHBOUR: 'it returns false'. Refute it at one input. -/
def fnSubOkWrong : ChangeSpec := { name := "fnSubOk", fn := fun _ => fun
  | [d] => { results := [.lit (.bool false)], args := [d] }
  | _ => none }
def FnSubOkWrongFalsely : Prop := fnSubOkRow.holds Tryd.pinned (OpenSpec.ofChange fnSubOkWrong)

/-- 'laws.FnSubVar': WHATEVER THE INPUT: true; the input reads as it did. -/
def fnSubVarSpec : ChangeSpec := { name := "fnSubVar", fn := fun _ => fun
  | [d] => { results := [.lit (.bool true)], args := [d] }
  | _ => none }
def fnSubVarRow : OpenClaim := { program := "ytlaicnoikeieeaadoor", sum := "b9f2bc85767c7b979d1064a980060de8472b380478150f47b49b55a3b6ed17b2", func := "loop.example/catechist/laws.FnSubVar", spec := "fnSubVar", inPlace := ["internal/bytealg.IndexByteString", "internal/bytealg.IndexString"], unfollowed := true, recurses := true, named := ["unicode/utf8.first", "unicode/utf8.acceptRanges", "internal/bytealg.MaxLen"], apart := false, laid := [("unicode/utf8.acceptRanges", laid_unicode_utf8_acceptRanges), ("unicode/utf8.first", laid_unicode_utf8_first)] }
def FnSubVarSaid : Prop := fnSubVarRow.holds Tryd.pinned (OpenSpec.ofChange fnSubVarSpec)

/-- ITS FALSE NEIGHBOUR: 'it returns false'. Refute it at one input. -/
def fnSubVarWrong : ChangeSpec := { name := "fnSubVar", fn := fun _ => fun
  | [d] => { results := [.lit (.bool false)], args := [d] }
  | _ => none }
def FnSubVarWrongFalsely : Prop := fnSubVarRow.holds Tryd.pinned (OpenSpec.ofChange fnSubVarWrong)

/-- 'laws.FnExactSubFull': WHATEVER THE INPUT: true; the input reads as it did. -/
def fnExactSubFullSpec : ChangeSpec := { name := "fnExactSubFull", fn := fun _ => fun
  | [d1, d2] => { results := [.lit (.bool true)], args := [d1, d2] }
  | _ => none }
def fnExactSubFullRow : OpenClaim := { program := "ytlaicnoikeieeaadoor", sum := "b9f2bc85767c7b979d1064a980060de8472b380478150f47b49b55a3b6ed17b2", func := "loop.example/catechist/laws.FnExactSubFull", spec := "fnExactSubFull", inPlace := ["internal/bytealg.IndexByteString", "internal/bytealg.IndexString"], unfollowed := true, recurses := true, named := ["unicode/utf8.first", "unicode/utf8.acceptRanges", "internal/bytealg.MaxLen"], apart := false, laid := [("unicode/utf8.acceptRanges", laid_unicode_utf8_acceptRanges), ("unicode/utf8.first", laid_unicode_utf8_first)] }
def FnExactSubFullSaid : Prop := fnExactSubFullRow.holds Tryd.pinned (OpenSpec.ofChange fnExactSubFullSpec)

/-- ITS FALSE NEIGHBOUR: 'it returns false'. Refute it at one input. -/
def fnExactSubFullWrong : ChangeSpec := { name := "fnExactSubFull", fn := fun _ => fun
  | [d1, d2] => { results := [.lit (.bool false)], args := [d1, d2] }
  | _ => none }
def FnExactSubFullWrongFalsely : Prop := fnExactSubFullRow.holds Tryd.pinned (OpenSpec.ofChange fnExactSubFullWrong)

/-- 'laws.FnSubFull': WHATEVER THE INPUT: true; the input reads as it did. -/
def fnSubFullSpec : ChangeSpec := { name := "fnSubFull", fn := fun _ => fun
  | [d] => { results := [.lit (.bool true)], args := [d] }
  | _ => none }
def fnSubFullRow : OpenClaim := { program := "ytlaicnoikeieeaadoor", sum := "b9f2bc85767c7b979d1064a980060de8472b380478150f47b49b55a3b6ed17b2", func := "loop.example/catechist/laws.FnSubFull", spec := "fnSubFull", inPlace := ["internal/bytealg.IndexByteString", "internal/bytealg.IndexString"], unfollowed := true, recurses := true, named := ["unicode/utf8.first", "unicode/utf8.acceptRanges", "internal/bytealg.MaxLen"], apart := false, laid := [("unicode/utf8.acceptRanges", laid_unicode_utf8_acceptRanges), ("unicode/utf8.first", laid_unicode_utf8_first)] }
def FnSubFullSaid : Prop := fnSubFullRow.holds Tryd.pinned (OpenSpec.ofChange fnSubFullSpec)

/-- ITS FALSE NEIGHBOUR: 'it returns false'. Refute it at one input. -/
def fnSubFullWrong : ChangeSpec := { name := "fnSubFull", fn := fun _ => fun
  | [d] => { results := [.lit (.bool false)], args := [d] }
  | _ => none }
def FnSubFullWrongFalsely : Prop := fnSubFullRow.holds Tryd.pinned (OpenSpec.ofChange fnSubFullWrong)

/-- 'laws.FnSubMost': WHATEVER THE INPUT: true; the input reads as it did. -/
def fnSubMostSpec : ChangeSpec := { name := "fnSubMost", fn := fun _ => fun
  | [d] => { results := [.lit (.bool true)], args := [d] }
  | _ => none }
def fnSubMostRow : OpenClaim := { program := "ytlaicnoikeieeaadoor", sum := "b9f2bc85767c7b979d1064a980060de8472b380478150f47b49b55a3b6ed17b2", func := "loop.example/catechist/laws.FnSubMost", spec := "fnSubMost", inPlace := ["internal/bytealg.IndexByteString", "internal/bytealg.IndexString"], unfollowed := true, recurses := true, named := ["unicode/utf8.first", "unicode/utf8.acceptRanges", "internal/bytealg.MaxLen"], apart := false, laid := [("unicode/utf8.acceptRanges", laid_unicode_utf8_acceptRanges), ("unicode/utf8.first", laid_unicode_utf8_first)] }
def FnSubMostSaid : Prop := fnSubMostRow.holds Tryd.pinned (OpenSpec.ofChange fnSubMostSpec)

/-- ITS FALSE NEIGHBOUR: 'it returns false'. Refute it at one input. -/
def fnSubMostWrong : ChangeSpec := { name := "fnSubMost", fn := fun _ => fun
  | [d] => { results := [.lit (.bool false)], args := [d] }
  | _ => none }
def FnSubMostWrongFalsely : Prop := fnSubMostRow.holds Tryd.pinned (OpenSpec.ofChange fnSubMostWrong)

/-- 'laws.FnSubAgain': WHATEVER THE INPUT: true; the input reads as it did. -/
def fnSubAgainSpec : ChangeSpec := { name := "fnSubAgain", fn := fun _ => fun
  | [d] => { results := [.lit (.bool true)], args := [d] }
  | _ => none }
def fnSubAgainRow : OpenClaim := { program := "ytlaicnoikeieeaadoor", sum := "b9f2bc85767c7b979d1064a980060de8472b380478150f47b49b55a3b6ed17b2", func := "loop.example/catechist/laws.FnSubAgain", spec := "fnSubAgain", inPlace := ["internal/bytealg.IndexByteString", "internal/bytealg.IndexString"], unfollowed := true, recurses := true, named := ["unicode/utf8.first", "unicode/utf8.acceptRanges", "internal/bytealg.MaxLen"], apart := false, laid := [("unicode/utf8.acceptRanges", laid_unicode_utf8_acceptRanges), ("unicode/utf8.first", laid_unicode_utf8_first)] }
def FnSubAgainSaid : Prop := fnSubAgainRow.holds Tryd.pinned (OpenSpec.ofChange fnSubAgainSpec)

/-- ITS FALSE NEIGHBOUR: 'it returns false'. Refute it at one input. -/
def fnSubAgainWrong : ChangeSpec := { name := "fnSubAgain", fn := fun _ => fun
  | [d] => { results := [.lit (.bool false)], args := [d] }
  | _ => none }
def FnSubAgainWrongFalsely : Prop := fnSubAgainRow.holds Tryd.pinned (OpenSpec.ofChange fnSubAgainWrong)

/-- 'laws.FnSubSwap': WHATEVER THE INPUT: true; the input reads as it did. -/
def fnSubSwapSpec : ChangeSpec := { name := "fnSubSwap", fn := fun _ => fun
  | [d] => { results := [.lit (.bool true)], args := [d] }
  | _ => none }
def fnSubSwapRow : OpenClaim := { program := "ytlaicnoikeieeaadoor", sum := "b9f2bc85767c7b979d1064a980060de8472b380478150f47b49b55a3b6ed17b2", func := "loop.example/catechist/laws.FnSubSwap", spec := "fnSubSwap", inPlace := ["internal/bytealg.IndexByteString", "internal/bytealg.IndexString"], unfollowed := true, recurses := true, named := ["unicode/utf8.first", "unicode/utf8.acceptRanges", "internal/bytealg.MaxLen"], apart := false, laid := [("unicode/utf8.acceptRanges", laid_unicode_utf8_acceptRanges), ("unicode/utf8.first", laid_unicode_utf8_first)] }
def FnSubSwapSaid : Prop := fnSubSwapRow.holds Tryd.pinned (OpenSpec.ofChange fnSubSwapSpec)

/-- ITS FALSE NEIGHBOUR: 'it returns false'. Refute it at one input. -/
def fnSubSwapWrong : ChangeSpec := { name := "fnSubSwap", fn := fun _ => fun
  | [d] => { results := [.lit (.bool false)], args := [d] }
  | _ => none }
def FnSubSwapWrongFalsely : Prop := fnSubSwapRow.holds Tryd.pinned (OpenSpec.ofChange fnSubSwapWrong)

/-- 'laws.FnSubArgs': WHATEVER THE INPUT: true; the input reads as it did. -/
def fnSubArgsSpec : ChangeSpec := { name := "fnSubArgs", fn := fun _ => fun
  | [d] => { results := [.lit (.bool true)], args := [d] }
  | _ => none }
def fnSubArgsRow : OpenClaim := { program := "ytlaicnoikeieeaadoor", sum := "b9f2bc85767c7b979d1064a980060de8472b380478150f47b49b55a3b6ed17b2", func := "loop.example/catechist/laws.FnSubArgs", spec := "fnSubArgs", inPlace := ["internal/bytealg.IndexByteString", "internal/bytealg.IndexString"], unfollowed := true, recurses := true, named := ["unicode/utf8.first", "unicode/utf8.acceptRanges", "internal/bytealg.MaxLen"], apart := false, laid := [("unicode/utf8.acceptRanges", laid_unicode_utf8_acceptRanges), ("unicode/utf8.first", laid_unicode_utf8_first)] }
def FnSubArgsSaid : Prop := fnSubArgsRow.holds Tryd.pinned (OpenSpec.ofChange fnSubArgsSpec)

/-- ITS FALSE NEIGHBOUR: 'it returns false'. Refute it at one input. -/
def fnSubArgsWrong : ChangeSpec := { name := "fnSubArgs", fn := fun _ => fun
  | [d] => { results := [.lit (.bool false)], args := [d] }
  | _ => none }
def FnSubArgsWrongFalsely : Prop := fnSubArgsRow.holds Tryd.pinned (OpenSpec.ofChange fnSubArgsWrong)

/-- 'laws.FnSubApart': WHATEVER THE INPUT: true; the input reads as it did. -/
def fnSubApartSpec : ChangeSpec := { name := "fnSubApart", fn := fun _ => fun
  | [d] => { results := [.lit (.bool true)], args := [d] }
  | _ => none }
def fnSubApartRow : OpenClaim := { program := "ytlaicnoikeieeaadoor", sum := "b9f2bc85767c7b979d1064a980060de8472b380478150f47b49b55a3b6ed17b2", func := "loop.example/catechist/laws.FnSubApart", spec := "fnSubApart", inPlace := ["internal/bytealg.IndexByteString", "internal/bytealg.IndexString"], unfollowed := true, recurses := true, named := ["unicode/utf8.first", "unicode/utf8.acceptRanges", "internal/bytealg.MaxLen"], apart := false, laid := [("unicode/utf8.acceptRanges", laid_unicode_utf8_acceptRanges), ("unicode/utf8.first", laid_unicode_utf8_first)] }
def FnSubApartSaid : Prop := fnSubApartRow.holds Tryd.pinned (OpenSpec.ofChange fnSubApartSpec)

/-- ITS FALSE NEIGHBOUR: 'it returns false'. Refute it at one input. -/
def fnSubApartWrong : ChangeSpec := { name := "fnSubApart", fn := fun _ => fun
  | [d] => { results := [.lit (.bool false)], args := [d] }
  | _ => none }
def FnSubApartWrongFalsely : Prop := fnSubApartRow.holds Tryd.pinned (OpenSpec.ofChange fnSubApartWrong)

/-- 'laws.FnSubGround': WHATEVER THE INPUT: true; the input reads as it did. -/
def fnSubGroundSpec : ChangeSpec := { name := "fnSubGround", fn := fun _ => fun
  | [d] => { results := [.lit (.bool true)], args := [d] }
  | _ => none }
def fnSubGroundRow : OpenClaim := { program := "ytlaicnoikeieeaadoor", sum := "b9f2bc85767c7b979d1064a980060de8472b380478150f47b49b55a3b6ed17b2", func := "loop.example/catechist/laws.FnSubGround", spec := "fnSubGround", inPlace := ["internal/bytealg.IndexByteString", "internal/bytealg.IndexString"], unfollowed := true, recurses := true, named := ["unicode/utf8.first", "unicode/utf8.acceptRanges", "internal/bytealg.MaxLen"], apart := false, laid := [("unicode/utf8.acceptRanges", laid_unicode_utf8_acceptRanges), ("unicode/utf8.first", laid_unicode_utf8_first)] }
def FnSubGroundSaid : Prop := fnSubGroundRow.holds Tryd.pinned (OpenSpec.ofChange fnSubGroundSpec)

/-- ITS FALSE NEIGHBOUR: 'it returns false'. Refute it at one input. -/
def fnSubGroundWrong : ChangeSpec := { name := "fnSubGround", fn := fun _ => fun
  | [d] => { results := [.lit (.bool false)], args := [d] }
  | _ => none }
def FnSubGroundWrongFalsely : Prop := fnSubGroundRow.holds Tryd.pinned (OpenSpec.ofChange fnSubGroundWrong)

/-- 'laws.FnSubUnify': WHATEVER THE INPUT: true; the input reads as it did. -/
def fnSubUnifySpec : ChangeSpec := { name := "fnSubUnify", fn := fun _ => fun
  | [d] => { results := [.lit (.bool true)], args := [d] }
  | _ => none }
def fnSubUnifyRow : OpenClaim := { program := "ytlaicnoikeieeaadoor", sum := "b9f2bc85767c7b979d1064a980060de8472b380478150f47b49b55a3b6ed17b2", func := "loop.example/catechist/laws.FnSubUnify", spec := "fnSubUnify", inPlace := ["internal/bytealg.IndexByteString", "internal/bytealg.IndexString"], unfollowed := true, recurses := true, named := ["unicode/utf8.first", "unicode/utf8.acceptRanges", "internal/bytealg.MaxLen"], apart := false, laid := [("unicode/utf8.acceptRanges", laid_unicode_utf8_acceptRanges), ("unicode/utf8.first", laid_unicode_utf8_first)] }
def FnSubUnifySaid : Prop := fnSubUnifyRow.holds Tryd.pinned (OpenSpec.ofChange fnSubUnifySpec)

/-- ITS FALSE NEIGHBOUR: 'it returns false'. Refute it at one input. -/
def fnSubUnifyWrong : ChangeSpec := { name := "fnSubUnify", fn := fun _ => fun
  | [d] => { results := [.lit (.bool false)], args := [d] }
  | _ => none }
def FnSubUnifyWrongFalsely : Prop := fnSubUnifyRow.holds Tryd.pinned (OpenSpec.ofChange fnSubUnifyWrong)

/-- 'laws.FnExactSubUnify': WHATEVER THE INPUT: true; the input reads as it did. -/
def fnExactSubUnifySpec : ChangeSpec := { name := "fnExactSubUnify", fn := fun _ => fun
  | [d1, d2, d3] => { results := [.lit (.bool true)], args := [d1, d2, d3] }
  | _ => none }
def fnExactSubUnifyRow : OpenClaim := { program := "ytlaicnoikeieeaadoor", sum := "b9f2bc85767c7b979d1064a980060de8472b380478150f47b49b55a3b6ed17b2", func := "loop.example/catechist/laws.FnExactSubUnify", spec := "fnExactSubUnify", inPlace := ["internal/bytealg.IndexByteString", "internal/bytealg.IndexString"], unfollowed := true, recurses := true, named := ["unicode/utf8.first", "unicode/utf8.acceptRanges", "internal/bytealg.MaxLen"], apart := false, laid := [("unicode/utf8.acceptRanges", laid_unicode_utf8_acceptRanges), ("unicode/utf8.first", laid_unicode_utf8_first)] }
def FnExactSubUnifySaid : Prop := fnExactSubUnifyRow.holds Tryd.pinned (OpenSpec.ofChange fnExactSubUnifySpec)

/-- ITS FALSE NEIGHBOUR: 'it returns false'. Refute it at one input. -/
def fnExactSubUnifyWrong : ChangeSpec := { name := "fnExactSubUnify", fn := fun _ => fun
  | [d1, d2, d3] => { results := [.lit (.bool false)], args := [d1, d2, d3] }
  | _ => none }
def FnExactSubUnifyWrongFalsely : Prop := fnExactSubUnifyRow.holds Tryd.pinned (OpenSpec.ofChange fnExactSubUnifyWrong)

/-- 'laws.FnSubTwo': WHATEVER THE INPUT: true; the input reads as it did. -/
def fnSubTwoSpec : ChangeSpec := { name := "fnSubTwo", fn := fun _ => fun
  | [d1, d2] => { results := [.lit (.bool true)], args := [d1, d2] }
  | _ => none }
def fnSubTwoRow : OpenClaim := { program := "ytlaicnoikeieeaadoor", sum := "b9f2bc85767c7b979d1064a980060de8472b380478150f47b49b55a3b6ed17b2", func := "loop.example/catechist/laws.FnSubTwo", spec := "fnSubTwo", inPlace := ["internal/bytealg.IndexByteString", "internal/bytealg.IndexString"], unfollowed := true, recurses := true, named := ["unicode/utf8.first", "unicode/utf8.acceptRanges", "internal/bytealg.MaxLen"], apart := false, laid := [("unicode/utf8.acceptRanges", laid_unicode_utf8_acceptRanges), ("unicode/utf8.first", laid_unicode_utf8_first)] }
def FnSubTwoSaid : Prop := fnSubTwoRow.holds Tryd.pinned (OpenSpec.ofChange fnSubTwoSpec)

/-- ITS FALSE NEIGHBOUR: 'it returns false'. Refute it at one input. -/
def fnSubTwoWrong : ChangeSpec := { name := "fnSubTwo", fn := fun _ => fun
  | [d1, d2] => { results := [.lit (.bool false)], args := [d1, d2] }
  | _ => none }
def FnSubTwoWrongFalsely : Prop := fnSubTwoRow.holds Tryd.pinned (OpenSpec.ofChange fnSubTwoWrong)

/- THE SECOND FORM. 'bulk': how many values and letters a reading holds, each counted each time it is reached (what is shared counts as often as it is met; a slice's spare places count too). A statement '..UptoSaid' is the law's where the arguments, and the package variables that the reading takes, are together of bulk at most 1048576: NARROWER than '..Said'. Prove '..Said' where nothing that the law and all that it calls make is longer than what came in: it says more and counts as full. Else prove '..UptoSaid'. A law counts once. -/
mutual
def uptoBulk {H : Type} : DataW H → Nat
  | .lit (.string bytes) => bytes.length + 1
  | .lit _ => 1
  | .nil => 1
  | .ptr d => uptoBulk d + 1
  | .slice elems spare => uptoBulkAll elems + uptoBulkAll spare + 1
  | .agg parts => uptoBulkAll parts + 1
  | .iface _ d => uptoBulk d + 1
  | .map entries => uptoBulkEntries entries + 1
  | .held _ => 1
def uptoBulkAll {H : Type} : List (DataW H) → Nat
  | [] => 0
  | d :: r => uptoBulk d + uptoBulkAll r
def uptoBulkEntries {H : Type} : List (Lit × DataW H) → Nat
  | [] => 0
  | x :: r => uptoBulkEntry x + uptoBulkEntries r
def uptoBulkEntry {H : Type} : Lit × DataW H → Nat
  | (.string bytes, d) => bytes.length + uptoBulk d + 1
  | (_, d) => uptoBulk d + 1
 end
def uptoSmall : (H : Type) → List (DataW H) → Bool := fun _ ds => decide (uptoBulkAll ds ≤ 1048576)
def OpenSpec.upto (s : _root_.Go.ChangeSpec) : _root_.Go.OpenSpec := { _root_.Go.OpenSpec.ofChange s with cond := some uptoSmall }

/-- 'laws.FnSubGet', WHERE WHAT IT READS IS OF BULK AT MOST 1048576: true; the input reads as it did. -/
def fnSubGetUptoRow : OpenClaim := { program := "ytlaicnoikeieeaadoor", sum := "b9f2bc85767c7b979d1064a980060de8472b380478150f47b49b55a3b6ed17b2", func := "loop.example/catechist/laws.FnSubGet", spec := "fnSubGet", inPlace := ["internal/bytealg.IndexByteString", "internal/bytealg.IndexString"], unfollowed := true, recurses := true, named := ["unicode/utf8.first", "unicode/utf8.acceptRanges", "internal/bytealg.MaxLen"], apart := false, laid := [("unicode/utf8.acceptRanges", laid_unicode_utf8_acceptRanges), ("unicode/utf8.first", laid_unicode_utf8_first)], narrowed := true }
def FnSubGetUptoSaid : Prop := fnSubGetUptoRow.holds Tryd.pinned (OpenSpec.upto fnSubGetSpec)

/-- 'laws.FnExactSubOk', WHERE WHAT IT READS IS OF BULK AT MOST 1048576: true; the input reads as it did. -/
def fnExactSubOkUptoRow : OpenClaim := { program := "ytlaicnoikeieeaadoor", sum := "b9f2bc85767c7b979d1064a980060de8472b380478150f47b49b55a3b6ed17b2", func := "loop.example/catechist/laws.FnExactSubOk", spec := "fnExactSubOk", inPlace := ["internal/bytealg.IndexByteString", "internal/bytealg.IndexString"], unfollowed := true, recurses := true, named := ["unicode/utf8.first", "unicode/utf8.acceptRanges", "internal/bytealg.MaxLen"], apart := false, laid := [("unicode/utf8.acceptRanges", laid_unicode_utf8_acceptRanges), ("unicode/utf8.first", laid_unicode_utf8_first)], narrowed := true }
def FnExactSubOkUptoSaid : Prop := fnExactSubOkUptoRow.holds Tryd.pinned (OpenSpec.upto fnExactSubOkSpec)

/-- 'laws.FnSubOk', WHERE WHAT IT READS IS OF BULK AT MOST 1048576: true; the input reads as it did. -/
def fnSubOkUptoRow : OpenClaim := { program := "ytlaicnoikeieeaadoor", sum := "b9f2bc85767c7b979d1064a980060de8472b380478150f47b49b55a3b6ed17b2", func := "loop.example/catechist/laws.FnSubOk", spec := "fnSubOk", inPlace := ["internal/bytealg.IndexByteString", "internal/bytealg.IndexString"], unfollowed := true, recurses := true, named := ["unicode/utf8.first", "unicode/utf8.acceptRanges", "internal/bytealg.MaxLen"], apart := false, laid := [("unicode/utf8.acceptRanges", laid_unicode_utf8_acceptRanges), ("unicode/utf8.first", laid_unicode_utf8_first)], narrowed := true }
def FnSubOkUptoSaid : Prop := fnSubOkUptoRow.holds Tryd.pinned (OpenSpec.upto fnSubOkSpec)

/-- 'laws.FnSubVar', WHERE WHAT IT READS IS OF BULK AT MOST 1048576: true; the input reads as it did. -/
def fnSubVarUptoRow : OpenClaim := { program := "ytlaicnoikeieeaadoor", sum := "b9f2bc85767c7b979d1064a980060de8472b380478150f47b49b55a3b6ed17b2", func := "loop.example/catechist/laws.FnSubVar", spec := "fnSubVar", inPlace := ["internal/bytealg.IndexByteString", "internal/bytealg.IndexString"], unfollowed := true, recurses := true, named := ["unicode/utf8.first", "unicode/utf8.acceptRanges", "internal/bytealg.MaxLen"], apart := false, laid := [("unicode/utf8.acceptRanges", laid_unicode_utf8_acceptRanges), ("unicode/utf8.first", laid_unicode_utf8_first)], narrowed := true }
def FnSubVarUptoSaid : Prop := fnSubVarUptoRow.holds Tryd.pinned (OpenSpec.upto fnSubVarSpec)

/-- 'laws.FnExactSubFull', WHERE WHAT IT READS IS OF BULK AT MOST 1048576: true; the input reads as it did. -/
def fnExactSubFullUptoRow : OpenClaim := { program := "ytlaicnoikeieeaadoor", sum := "b9f2bc85767c7b979d1064a980060de8472b380478150f47b49b55a3b6ed17b2", func := "loop.example/catechist/laws.FnExactSubFull", spec := "fnExactSubFull", inPlace := ["internal/bytealg.IndexByteString", "internal/bytealg.IndexString"], unfollowed := true, recurses := true, named := ["unicode/utf8.first", "unicode/utf8.acceptRanges", "internal/bytealg.MaxLen"], apart := false, laid := [("unicode/utf8.acceptRanges", laid_unicode_utf8_acceptRanges), ("unicode/utf8.first", laid_unicode_utf8_first)], narrowed := true }
def FnExactSubFullUptoSaid : Prop := fnExactSubFullUptoRow.holds Tryd.pinned (OpenSpec.upto fnExactSubFullSpec)

/-- 'laws.FnSubFull', WHERE WHAT IT READS IS OF BULK AT MOST 1048576: true; the input reads as it did. -/
def fnSubFullUptoRow : OpenClaim := { program := "ytlaicnoikeieeaadoor", sum := "b9f2bc85767c7b979d1064a980060de8472b380478150f47b49b55a3b6ed17b2", func := "loop.example/catechist/laws.FnSubFull", spec := "fnSubFull", inPlace := ["internal/bytealg.IndexByteString", "internal/bytealg.IndexString"], unfollowed := true, recurses := true, named := ["unicode/utf8.first", "unicode/utf8.acceptRanges", "internal/bytealg.MaxLen"], apart := false, laid := [("unicode/utf8.acceptRanges", laid_unicode_utf8_acceptRanges), ("unicode/utf8.first", laid_unicode_utf8_first)], narrowed := true }
def FnSubFullUptoSaid : Prop := fnSubFullUptoRow.holds Tryd.pinned (OpenSpec.upto fnSubFullSpec)

/-- 'laws.FnSubMost', WHERE WHAT IT READS IS OF BULK AT MOST 1048576: true; the input reads as it did. -/
def fnSubMostUptoRow : OpenClaim := { program := "ytlaicnoikeieeaadoor", sum := "b9f2bc85767c7b979d1064a980060de8472b380478150f47b49b55a3b6ed17b2", func := "loop.example/catechist/laws.FnSubMost", spec := "fnSubMost", inPlace := ["internal/bytealg.IndexByteString", "internal/bytealg.IndexString"], unfollowed := true, recurses := true, named := ["unicode/utf8.first", "unicode/utf8.acceptRanges", "internal/bytealg.MaxLen"], apart := false, laid := [("unicode/utf8.acceptRanges", laid_unicode_utf8_acceptRanges), ("unicode/utf8.first", laid_unicode_utf8_first)], narrowed := true }
def FnSubMostUptoSaid : Prop := fnSubMostUptoRow.holds Tryd.pinned (OpenSpec.upto fnSubMostSpec)

/-- 'laws.FnSubAgain', WHERE WHAT IT READS IS OF BULK AT MOST 1048576: true; the input reads as it did. -/
def fnSubAgainUptoRow : OpenClaim := { program := "ytlaicnoikeieeaadoor", sum := "b9f2bc85767c7b979d1064a980060de8472b380478150f47b49b55a3b6ed17b2", func := "loop.example/catechist/laws.FnSubAgain", spec := "fnSubAgain", inPlace := ["internal/bytealg.IndexByteString", "internal/bytealg.IndexString"], unfollowed := true, recurses := true, named := ["unicode/utf8.first", "unicode/utf8.acceptRanges", "internal/bytealg.MaxLen"], apart := false, laid := [("unicode/utf8.acceptRanges", laid_unicode_utf8_acceptRanges), ("unicode/utf8.first", laid_unicode_utf8_first)], narrowed := true }
def FnSubAgainUptoSaid : Prop := fnSubAgainUptoRow.holds Tryd.pinned (OpenSpec.upto fnSubAgainSpec)

/-- 'laws.FnSubSwap', WHERE WHAT IT READS IS OF BULK AT MOST 1048576: true; the input reads as it did. -/
def fnSubSwapUptoRow : OpenClaim := { program := "ytlaicnoikeieeaadoor", sum := "b9f2bc85767c7b979d1064a980060de8472b380478150f47b49b55a3b6ed17b2", func := "loop.example/catechist/laws.FnSubSwap", spec := "fnSubSwap", inPlace := ["internal/bytealg.IndexByteString", "internal/bytealg.IndexString"], unfollowed := true, recurses := true, named := ["unicode/utf8.first", "unicode/utf8.acceptRanges", "internal/bytealg.MaxLen"], apart := false, laid := [("unicode/utf8.acceptRanges", laid_unicode_utf8_acceptRanges), ("unicode/utf8.first", laid_unicode_utf8_first)], narrowed := true }
def FnSubSwapUptoSaid : Prop := fnSubSwapUptoRow.holds Tryd.pinned (OpenSpec.upto fnSubSwapSpec)

/-- 'laws.FnSubArgs', WHERE WHAT IT READS IS OF BULK AT MOST 1048576: true; the input reads as it did. -/
def fnSubArgsUptoRow : OpenClaim := { program := "ytlaicnoikeieeaadoor", sum := "b9f2bc85767c7b979d1064a980060de8472b380478150f47b49b55a3b6ed17b2", func := "loop.example/catechist/laws.FnSubArgs", spec := "fnSubArgs", inPlace := ["internal/bytealg.IndexByteString", "internal/bytealg.IndexString"], unfollowed := true, recurses := true, named := ["unicode/utf8.first", "unicode/utf8.acceptRanges", "internal/bytealg.MaxLen"], apart := false, laid := [("unicode/utf8.acceptRanges", laid_unicode_utf8_acceptRanges), ("unicode/utf8.first", laid_unicode_utf8_first)], narrowed := true }
def FnSubArgsUptoSaid : Prop := fnSubArgsUptoRow.holds Tryd.pinned (OpenSpec.upto fnSubArgsSpec)

/-- 'laws.FnSubApart', WHERE WHAT IT READS IS OF BULK AT MOST 1048576: true; the input reads as it did. -/
def fnSubApartUptoRow : OpenClaim := { program := "ytlaicnoikeieeaadoor", sum := "b9f2bc85767c7b979d1064a980060de8472b380478150f47b49b55a3b6ed17b2", func := "loop.example/catechist/laws.FnSubApart", spec := "fnSubApart", inPlace := ["internal/bytealg.IndexByteString", "internal/bytealg.IndexString"], unfollowed := true, recurses := true, named := ["unicode/utf8.first", "unicode/utf8.acceptRanges", "internal/bytealg.MaxLen"], apart := false, laid := [("unicode/utf8.acceptRanges", laid_unicode_utf8_acceptRanges), ("unicode/utf8.first", laid_unicode_utf8_first)], narrowed := true }
def FnSubApartUptoSaid : Prop := fnSubApartUptoRow.holds Tryd.pinned (OpenSpec.upto fnSubApartSpec)

/-- 'laws.FnSubGround', WHERE WHAT IT READS IS OF BULK AT MOST 1048576: true; the input reads as it did. -/
def fnSubGroundUptoRow : OpenClaim := { program := "ytlaicnoikeieeaadoor", sum := "b9f2bc85767c7b979d1064a980060de8472b380478150f47b49b55a3b6ed17b2", func := "loop.example/catechist/laws.FnSubGround", spec := "fnSubGround", inPlace := ["internal/bytealg.IndexByteString", "internal/bytealg.IndexString"], unfollowed := true, recurses := true, named := ["unicode/utf8.first", "unicode/utf8.acceptRanges", "internal/bytealg.MaxLen"], apart := false, laid := [("unicode/utf8.acceptRanges", laid_unicode_utf8_acceptRanges), ("unicode/utf8.first", laid_unicode_utf8_first)], narrowed := true }
def FnSubGroundUptoSaid : Prop := fnSubGroundUptoRow.holds Tryd.pinned (OpenSpec.upto fnSubGroundSpec)

/-- 'laws.FnSubUnify', WHERE WHAT IT READS IS OF BULK AT MOST 1048576: true; the input reads as it did. -/
def fnSubUnifyUptoRow : OpenClaim := { program := "ytlaicnoikeieeaadoor", sum := "b9f2bc85767c7b979d1064a980060de8472b380478150f47b49b55a3b6ed17b2", func := "loop.example/catechist/laws.FnSubUnify", spec := "fnSubUnify", inPlace := ["internal/bytealg.IndexByteString", "internal/bytealg.IndexString"], unfollowed := true, recurses := true, named := ["unicode/utf8.first", "unicode/utf8.acceptRanges", "internal/bytealg.MaxLen"], apart := false, laid := [("unicode/utf8.acceptRanges", laid_unicode_utf8_acceptRanges), ("unicode/utf8.first", laid_unicode_utf8_first)], narrowed := true }
def FnSubUnifyUptoSaid : Prop := fnSubUnifyUptoRow.holds Tryd.pinned (OpenSpec.upto fnSubUnifySpec)

/-- 'laws.FnExactSubUnify', WHERE WHAT IT READS IS OF BULK AT MOST 1048576: true; the input reads as it did. -/
def fnExactSubUnifyUptoRow : OpenClaim := { program := "ytlaicnoikeieeaadoor", sum := "b9f2bc85767c7b979d1064a980060de8472b380478150f47b49b55a3b6ed17b2", func := "loop.example/catechist/laws.FnExactSubUnify", spec := "fnExactSubUnify", inPlace := ["internal/bytealg.IndexByteString", "internal/bytealg.IndexString"], unfollowed := true, recurses := true, named := ["unicode/utf8.first", "unicode/utf8.acceptRanges", "internal/bytealg.MaxLen"], apart := false, laid := [("unicode/utf8.acceptRanges", laid_unicode_utf8_acceptRanges), ("unicode/utf8.first", laid_unicode_utf8_first)], narrowed := true }
def FnExactSubUnifyUptoSaid : Prop := fnExactSubUnifyUptoRow.holds Tryd.pinned (OpenSpec.upto fnExactSubUnifySpec)

/-- 'laws.FnSubTwo', WHERE WHAT IT READS IS OF BULK AT MOST 1048576: true; the input reads as it did. -/
def fnSubTwoUptoRow : OpenClaim := { program := "ytlaicnoikeieeaadoor", sum := "b9f2bc85767c7b979d1064a980060de8472b380478150f47b49b55a3b6ed17b2", func := "loop.example/catechist/laws.FnSubTwo", spec := "fnSubTwo", inPlace := ["internal/bytealg.IndexByteString", "internal/bytealg.IndexString"], unfollowed := true, recurses := true, named := ["unicode/utf8.first", "unicode/utf8.acceptRanges", "internal/bytealg.MaxLen"], apart := false, laid := [("unicode/utf8.acceptRanges", laid_unicode_utf8_acceptRanges), ("unicode/utf8.first", laid_unicode_utf8_first)], narrowed := true }
def FnSubTwoUptoSaid : Prop := fnSubTwoUptoRow.holds Tryd.pinned (OpenSpec.upto fnSubTwoSpec)

end Rows
end Go.Proofs.YtlaicnoikeieeaaDoor
