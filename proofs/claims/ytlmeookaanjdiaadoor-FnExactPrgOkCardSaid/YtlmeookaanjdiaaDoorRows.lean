/-
  NARROWER THAN 'FOR EVERY INPUT', by the rows' own cells (each row's printed sentence says how): FnExactTrmOk: laid · FnTrmFree: laid · FnTrmWhole: laid · FnExactTrmArg: laid · FnExactGoalOk: laid · FnTrmShift: laid · FnExactTrmShift: laid · FnTrmArgs: laid · FnTrmArg: laid · FnTrmMake: laid · FnTrmRenamed: laid · FnExactTrmMake: laid · FnGoalOk: laid · FnTrmCanon: laid · FnExactPrgOk: laid · FnExactPrgNode: laid.
  DERIVED. THE GIVEN ROWS OF THIS SEAT. 16 by the template 'for every input the law returns true; each argument reads behind the call as it read before'; 0 by the template 'total and deterministic' (their statements: YtlmeookaanjdiaaDoorTotals.lean).
  GIVEN WITH THE SEED: the statements are not yours to turn. If you find one false, say at which input.
  Laid BY PROGRAM, IN A SANDBOX (cutbox-rows.mjs): the forced cells as the released guide's own fill.sh prints them over the translation cc98e38019efaba6… (all of the seat's roots in one cut). By AI agents, Wed Nov 11 2026. No macro, syntax, notation, axiom, sorry.
-/
import Derived.Test.YtlmeookaanjdiaaDoorChecked
import GoSem.PinnedTables
import GoSem.Claim
import GoSem.ClaimJoined
import GoSem.ClaimMapViews
import Derived.JoinedTies
import Derived.KernelRfl
namespace Go.Proofs.YtlmeookaanjdiaaDoor
/- THE CELL 'sum', in the pinned program and in every row, IS THE sha256 OF THE DUMP (.gsa) THAT YtlmeookaanjdiaaDoorProg.lean LOADS. Nothing in Lean hashes anything: it is a label: what it is worth is what the hold of that sum in a sandbox is worth. -/
noncomputable def Tryd.pinned : Pinned := { name := "ytlmeookaanjdiaadoor", sum := "cc98e38019efaba6124cad0e6fb71290d566f6484bfafc7e063d1da3907a8f4c", checked := Tryd.checked }
namespace Rows
def none {H : Type} : Left H := { results := [], args := [] }

/- WHAT THE LISTED PACKAGE-LEVEL VARIABLES READ AS WHEN THE CALL BEGINS. Each datum BY PROGRAM (the guide's laid-datum.mjs) off the statement by which the dump's own 'gosem.cut.vars' lays the variable. In a bare row this is a premise. The card (YtlmeookaanjdiaaDoorCards.lean) ties it to the program's text. -/
def laid_unicode_utf8_acceptRanges {H : Type} : DataW H := .agg [.agg [.lit (.int .u8 128), .lit (.int .u8 191)], .agg [.lit (.int .u8 160), .lit (.int .u8 191)], .agg [.lit (.int .u8 128), .lit (.int .u8 159)], .agg [.lit (.int .u8 144), .lit (.int .u8 191)], .agg [.lit (.int .u8 128), .lit (.int .u8 143)], .agg [.lit (.int .u8 0), .lit (.int .u8 0)], .agg [.lit (.int .u8 0), .lit (.int .u8 0)], .agg [.lit (.int .u8 0), .lit (.int .u8 0)], .agg [.lit (.int .u8 0), .lit (.int .u8 0)], .agg [.lit (.int .u8 0), .lit (.int .u8 0)], .agg [.lit (.int .u8 0), .lit (.int .u8 0)], .agg [.lit (.int .u8 0), .lit (.int .u8 0)], .agg [.lit (.int .u8 0), .lit (.int .u8 0)], .agg [.lit (.int .u8 0), .lit (.int .u8 0)], .agg [.lit (.int .u8 0), .lit (.int .u8 0)], .agg [.lit (.int .u8 0), .lit (.int .u8 0)]]
/-- One of Go's own tables, pinned by name: the form's constant. -/
def laid_unicode_utf8_first : DataW Unit := Go.Pinned.utf8First

/-- 'laws.FnExactTrmOk': WHATEVER THE INPUT: true; the input reads as it did. -/
def fnExactTrmOkSpec : ChangeSpec := { name := "fnExactTrmOk", fn := fun _ => fun
  | [d] => { results := [.lit (.bool true)], args := [d] }
  | _ => none }
def fnExactTrmOkRow : OpenClaim := { program := "ytlmeookaanjdiaadoor", sum := "cc98e38019efaba6124cad0e6fb71290d566f6484bfafc7e063d1da3907a8f4c", func := "loop.example/catechist/laws.FnExactTrmOk", spec := "fnExactTrmOk", inPlace := ["internal/bytealg.IndexByteString", "internal/bytealg.IndexString"], unfollowed := true, recurses := true, named := ["unicode/utf8.first", "unicode/utf8.acceptRanges", "internal/bytealg.MaxLen"], apart := false, laid := [("unicode/utf8.acceptRanges", laid_unicode_utf8_acceptRanges), ("unicode/utf8.first", laid_unicode_utf8_first)] }
def FnExactTrmOkSaid : Prop := fnExactTrmOkRow.holds Tryd.pinned (OpenSpec.ofChange fnExactTrmOkSpec)

/-- ITS FALSE NEIGHBOUR: 'it returns false'. Refute it at one input. -/
def fnExactTrmOkWrong : ChangeSpec := { name := "fnExactTrmOk", fn := fun _ => fun
  | [d] => { results := [.lit (.bool false)], args := [d] }
  | _ => none }
def FnExactTrmOkWrongFalsely : Prop := fnExactTrmOkRow.holds Tryd.pinned (OpenSpec.ofChange fnExactTrmOkWrong)

/-- 'laws.FnTrmFree': WHATEVER THE INPUT: true; the input reads as it did. -/
def fnTrmFreeSpec : ChangeSpec := { name := "fnTrmFree", fn := fun _ => fun
  | [d] => { results := [.lit (.bool true)], args := [d] }
  | _ => none }
def fnTrmFreeRow : OpenClaim := { program := "ytlmeookaanjdiaadoor", sum := "cc98e38019efaba6124cad0e6fb71290d566f6484bfafc7e063d1da3907a8f4c", func := "loop.example/catechist/laws.FnTrmFree", spec := "fnTrmFree", inPlace := ["internal/bytealg.IndexByteString", "internal/bytealg.IndexString"], unfollowed := true, recurses := true, named := ["unicode/utf8.first", "unicode/utf8.acceptRanges", "internal/bytealg.MaxLen"], apart := false, laid := [("unicode/utf8.acceptRanges", laid_unicode_utf8_acceptRanges), ("unicode/utf8.first", laid_unicode_utf8_first)] }
def FnTrmFreeSaid : Prop := fnTrmFreeRow.holds Tryd.pinned (OpenSpec.ofChange fnTrmFreeSpec)

/-- ITS FALSE NEIGHBOUR: 'it returns false'. Refute it at one input. -/
def fnTrmFreeWrong : ChangeSpec := { name := "fnTrmFree", fn := fun _ => fun
  | [d] => { results := [.lit (.bool false)], args := [d] }
  | _ => none }
def FnTrmFreeWrongFalsely : Prop := fnTrmFreeRow.holds Tryd.pinned (OpenSpec.ofChange fnTrmFreeWrong)

/-- 'laws.FnTrmWhole': WHATEVER THE INPUT: true; the input reads as it did. -/
def fnTrmWholeSpec : ChangeSpec := { name := "fnTrmWhole", fn := fun _ => fun
  | [d] => { results := [.lit (.bool true)], args := [d] }
  | _ => none }
def fnTrmWholeRow : OpenClaim := { program := "ytlmeookaanjdiaadoor", sum := "cc98e38019efaba6124cad0e6fb71290d566f6484bfafc7e063d1da3907a8f4c", func := "loop.example/catechist/laws.FnTrmWhole", spec := "fnTrmWhole", inPlace := ["internal/bytealg.IndexByteString", "internal/bytealg.IndexString"], unfollowed := true, recurses := true, named := ["unicode/utf8.first", "unicode/utf8.acceptRanges", "internal/bytealg.MaxLen"], apart := false, laid := [("unicode/utf8.acceptRanges", laid_unicode_utf8_acceptRanges), ("unicode/utf8.first", laid_unicode_utf8_first)] }
def FnTrmWholeSaid : Prop := fnTrmWholeRow.holds Tryd.pinned (OpenSpec.ofChange fnTrmWholeSpec)

/-- ITS FALSE NEIGHBOUR: 'it returns false'. Refute it at one input. -/
def fnTrmWholeWrong : ChangeSpec := { name := "fnTrmWhole", fn := fun _ => fun
  | [d] => { results := [.lit (.bool false)], args := [d] }
  | _ => none }
def FnTrmWholeWrongFalsely : Prop := fnTrmWholeRow.holds Tryd.pinned (OpenSpec.ofChange fnTrmWholeWrong)

/-- 'laws.FnExactTrmArg': WHATEVER THE INPUT: true; the input reads as it did. -/
def fnExactTrmArgSpec : ChangeSpec := { name := "fnExactTrmArg", fn := fun _ => fun
  | [d1, d2] => { results := [.lit (.bool true)], args := [d1, d2] }
  | _ => none }
def fnExactTrmArgRow : OpenClaim := { program := "ytlmeookaanjdiaadoor", sum := "cc98e38019efaba6124cad0e6fb71290d566f6484bfafc7e063d1da3907a8f4c", func := "loop.example/catechist/laws.FnExactTrmArg", spec := "fnExactTrmArg", inPlace := ["internal/bytealg.IndexByteString", "internal/bytealg.IndexString"], unfollowed := true, recurses := true, named := ["unicode/utf8.first", "unicode/utf8.acceptRanges", "internal/bytealg.MaxLen"], apart := false, laid := [("unicode/utf8.acceptRanges", laid_unicode_utf8_acceptRanges), ("unicode/utf8.first", laid_unicode_utf8_first)] }
def FnExactTrmArgSaid : Prop := fnExactTrmArgRow.holds Tryd.pinned (OpenSpec.ofChange fnExactTrmArgSpec)

/-- ITS FALSE NEIGHBOUR: 'it returns false'. Refute it at one input. -/
def fnExactTrmArgWrong : ChangeSpec := { name := "fnExactTrmArg", fn := fun _ => fun
  | [d1, d2] => { results := [.lit (.bool false)], args := [d1, d2] }
  | _ => none }
def FnExactTrmArgWrongFalsely : Prop := fnExactTrmArgRow.holds Tryd.pinned (OpenSpec.ofChange fnExactTrmArgWrong)

/-- 'laws.FnExactGoalOk': WHATEVER THE INPUT: true; the input reads as it did. -/
def fnExactGoalOkSpec : ChangeSpec := { name := "fnExactGoalOk", fn := fun _ => fun
  | [d] => { results := [.lit (.bool true)], args := [d] }
  | _ => none }
def fnExactGoalOkRow : OpenClaim := { program := "ytlmeookaanjdiaadoor", sum := "cc98e38019efaba6124cad0e6fb71290d566f6484bfafc7e063d1da3907a8f4c", func := "loop.example/catechist/laws.FnExactGoalOk", spec := "fnExactGoalOk", inPlace := ["internal/bytealg.IndexByteString", "internal/bytealg.IndexString"], unfollowed := true, recurses := true, named := ["unicode/utf8.first", "unicode/utf8.acceptRanges", "internal/bytealg.MaxLen"], apart := false, laid := [("unicode/utf8.acceptRanges", laid_unicode_utf8_acceptRanges), ("unicode/utf8.first", laid_unicode_utf8_first)] }
def FnExactGoalOkSaid : Prop := fnExactGoalOkRow.holds Tryd.pinned (OpenSpec.ofChange fnExactGoalOkSpec)

/-- ITS FALSE NEIGHBOUR: 'it returns false'. Refute it at one input. -/
def fnExactGoalOkWrong : ChangeSpec := { name := "fnExactGoalOk", fn := fun _ => fun
  | [d] => { results := [.lit (.bool false)], args := [d] }
  | _ => none }
def FnExactGoalOkWrongFalsely : Prop := fnExactGoalOkRow.holds Tryd.pinned (OpenSpec.ofChange fnExactGoalOkWrong)

/-- 'laws.FnTrmShift': WHATEVER THE INPUT: true; the input reads as it did. -/
def fnTrmShiftSpec : ChangeSpec := { name := "fnTrmShift", fn := fun _ => fun
  | [d] => { results := [.lit (.bool true)], args := [d] }
  | _ => none }
def fnTrmShiftRow : OpenClaim := { program := "ytlmeookaanjdiaadoor", sum := "cc98e38019efaba6124cad0e6fb71290d566f6484bfafc7e063d1da3907a8f4c", func := "loop.example/catechist/laws.FnTrmShift", spec := "fnTrmShift", inPlace := ["internal/bytealg.IndexByteString", "internal/bytealg.IndexString"], unfollowed := true, recurses := true, named := ["unicode/utf8.first", "unicode/utf8.acceptRanges", "internal/bytealg.MaxLen"], apart := false, laid := [("unicode/utf8.acceptRanges", laid_unicode_utf8_acceptRanges), ("unicode/utf8.first", laid_unicode_utf8_first)] }
def FnTrmShiftSaid : Prop := fnTrmShiftRow.holds Tryd.pinned (OpenSpec.ofChange fnTrmShiftSpec)

/-- ITS FALSE NEIGHBOUR: 'it returns false'. Refute it at one input. -/
def fnTrmShiftWrong : ChangeSpec := { name := "fnTrmShift", fn := fun _ => fun
  | [d] => { results := [.lit (.bool false)], args := [d] }
  | _ => none }
def FnTrmShiftWrongFalsely : Prop := fnTrmShiftRow.holds Tryd.pinned (OpenSpec.ofChange fnTrmShiftWrong)

/-- 'laws.FnExactTrmShift': WHATEVER THE INPUT: true; the input reads as it did. -/
def fnExactTrmShiftSpec : ChangeSpec := { name := "fnExactTrmShift", fn := fun _ => fun
  | [d1, d2] => { results := [.lit (.bool true)], args := [d1, d2] }
  | _ => none }
def fnExactTrmShiftRow : OpenClaim := { program := "ytlmeookaanjdiaadoor", sum := "cc98e38019efaba6124cad0e6fb71290d566f6484bfafc7e063d1da3907a8f4c", func := "loop.example/catechist/laws.FnExactTrmShift", spec := "fnExactTrmShift", inPlace := ["internal/bytealg.IndexByteString", "internal/bytealg.IndexString"], unfollowed := true, recurses := true, named := ["unicode/utf8.first", "unicode/utf8.acceptRanges", "internal/bytealg.MaxLen"], apart := false, laid := [("unicode/utf8.acceptRanges", laid_unicode_utf8_acceptRanges), ("unicode/utf8.first", laid_unicode_utf8_first)] }
def FnExactTrmShiftSaid : Prop := fnExactTrmShiftRow.holds Tryd.pinned (OpenSpec.ofChange fnExactTrmShiftSpec)

/-- ITS FALSE NEIGHBOUR: 'it returns false'. Refute it at one input. -/
def fnExactTrmShiftWrong : ChangeSpec := { name := "fnExactTrmShift", fn := fun _ => fun
  | [d1, d2] => { results := [.lit (.bool false)], args := [d1, d2] }
  | _ => none }
def FnExactTrmShiftWrongFalsely : Prop := fnExactTrmShiftRow.holds Tryd.pinned (OpenSpec.ofChange fnExactTrmShiftWrong)

/-- 'laws.FnTrmArgs': WHATEVER THE INPUT: true; the input reads as it did. -/
def fnTrmArgsSpec : ChangeSpec := { name := "fnTrmArgs", fn := fun _ => fun
  | [d] => { results := [.lit (.bool true)], args := [d] }
  | _ => none }
def fnTrmArgsRow : OpenClaim := { program := "ytlmeookaanjdiaadoor", sum := "cc98e38019efaba6124cad0e6fb71290d566f6484bfafc7e063d1da3907a8f4c", func := "loop.example/catechist/laws.FnTrmArgs", spec := "fnTrmArgs", inPlace := ["internal/bytealg.IndexByteString", "internal/bytealg.IndexString"], unfollowed := true, recurses := true, named := ["unicode/utf8.first", "unicode/utf8.acceptRanges", "internal/bytealg.MaxLen"], apart := false, laid := [("unicode/utf8.acceptRanges", laid_unicode_utf8_acceptRanges), ("unicode/utf8.first", laid_unicode_utf8_first)] }
def FnTrmArgsSaid : Prop := fnTrmArgsRow.holds Tryd.pinned (OpenSpec.ofChange fnTrmArgsSpec)

/-- ITS FALSE NEIGHBOUR: 'it returns false'. Refute it at one input. -/
def fnTrmArgsWrong : ChangeSpec := { name := "fnTrmArgs", fn := fun _ => fun
  | [d] => { results := [.lit (.bool false)], args := [d] }
  | _ => none }
def FnTrmArgsWrongFalsely : Prop := fnTrmArgsRow.holds Tryd.pinned (OpenSpec.ofChange fnTrmArgsWrong)

/-- 'laws.FnTrmArg': WHATEVER THE INPUT: true; the input reads as it did. -/
def fnTrmArgSpec : ChangeSpec := { name := "fnTrmArg", fn := fun _ => fun
  | [d] => { results := [.lit (.bool true)], args := [d] }
  | _ => none }
def fnTrmArgRow : OpenClaim := { program := "ytlmeookaanjdiaadoor", sum := "cc98e38019efaba6124cad0e6fb71290d566f6484bfafc7e063d1da3907a8f4c", func := "loop.example/catechist/laws.FnTrmArg", spec := "fnTrmArg", inPlace := ["internal/bytealg.IndexByteString", "internal/bytealg.IndexString"], unfollowed := true, recurses := true, named := ["unicode/utf8.first", "unicode/utf8.acceptRanges", "internal/bytealg.MaxLen"], apart := false, laid := [("unicode/utf8.acceptRanges", laid_unicode_utf8_acceptRanges), ("unicode/utf8.first", laid_unicode_utf8_first)] }
def FnTrmArgSaid : Prop := fnTrmArgRow.holds Tryd.pinned (OpenSpec.ofChange fnTrmArgSpec)

/-- ITS FALSE NEIGHBOUR: 'it returns false'. Refute it at one input. -/
def fnTrmArgWrong : ChangeSpec := { name := "fnTrmArg", fn := fun _ => fun
  | [d] => { results := [.lit (.bool false)], args := [d] }
  | _ => none }
def FnTrmArgWrongFalsely : Prop := fnTrmArgRow.holds Tryd.pinned (OpenSpec.ofChange fnTrmArgWrong)

/-- 'laws.FnTrmMake': WHATEVER THE INPUT: true; the input reads as it did. -/
def fnTrmMakeSpec : ChangeSpec := { name := "fnTrmMake", fn := fun _ => fun
  | [d] => { results := [.lit (.bool true)], args := [d] }
  | _ => none }
def fnTrmMakeRow : OpenClaim := { program := "ytlmeookaanjdiaadoor", sum := "cc98e38019efaba6124cad0e6fb71290d566f6484bfafc7e063d1da3907a8f4c", func := "loop.example/catechist/laws.FnTrmMake", spec := "fnTrmMake", inPlace := ["internal/bytealg.IndexByteString", "internal/bytealg.IndexString"], unfollowed := true, recurses := true, named := ["unicode/utf8.first", "unicode/utf8.acceptRanges", "internal/bytealg.MaxLen"], apart := false, laid := [("unicode/utf8.acceptRanges", laid_unicode_utf8_acceptRanges), ("unicode/utf8.first", laid_unicode_utf8_first)] }
def FnTrmMakeSaid : Prop := fnTrmMakeRow.holds Tryd.pinned (OpenSpec.ofChange fnTrmMakeSpec)

/-- ITS FALSE NEIGHBOUR: 'it returns false'. Refute it at one input. -/
def fnTrmMakeWrong : ChangeSpec := { name := "fnTrmMake", fn := fun _ => fun
  | [d] => { results := [.lit (.bool false)], args := [d] }
  | _ => none }
def FnTrmMakeWrongFalsely : Prop := fnTrmMakeRow.holds Tryd.pinned (OpenSpec.ofChange fnTrmMakeWrong)

/-- 'laws.FnTrmRenamed': WHATEVER THE INPUT: true; the input reads as it did. -/
def fnTrmRenamedSpec : ChangeSpec := { name := "fnTrmRenamed", fn := fun _ => fun
  | [d] => { results := [.lit (.bool true)], args := [d] }
  | _ => none }
def fnTrmRenamedRow : OpenClaim := { program := "ytlmeookaanjdiaadoor", sum := "cc98e38019efaba6124cad0e6fb71290d566f6484bfafc7e063d1da3907a8f4c", func := "loop.example/catechist/laws.FnTrmRenamed", spec := "fnTrmRenamed", inPlace := ["internal/bytealg.IndexByteString", "internal/bytealg.IndexString"], unfollowed := true, recurses := true, named := ["unicode/utf8.first", "unicode/utf8.acceptRanges", "internal/bytealg.MaxLen"], apart := false, laid := [("unicode/utf8.acceptRanges", laid_unicode_utf8_acceptRanges), ("unicode/utf8.first", laid_unicode_utf8_first)] }
def FnTrmRenamedSaid : Prop := fnTrmRenamedRow.holds Tryd.pinned (OpenSpec.ofChange fnTrmRenamedSpec)

/-- ITS FALSE NEIGHBOUR: 'it returns false'. Refute it at one input. -/
def fnTrmRenamedWrong : ChangeSpec := { name := "fnTrmRenamed", fn := fun _ => fun
  | [d] => { results := [.lit (.bool false)], args := [d] }
  | _ => none }
def FnTrmRenamedWrongFalsely : Prop := fnTrmRenamedRow.holds Tryd.pinned (OpenSpec.ofChange fnTrmRenamedWrong)

/-- 'laws.FnExactTrmMake': WHATEVER THE INPUT: true; the input reads as it did. -/
def fnExactTrmMakeSpec : ChangeSpec := { name := "fnExactTrmMake", fn := fun _ => fun
  | [d1, d2] => { results := [.lit (.bool true)], args := [d1, d2] }
  | _ => none }
def fnExactTrmMakeRow : OpenClaim := { program := "ytlmeookaanjdiaadoor", sum := "cc98e38019efaba6124cad0e6fb71290d566f6484bfafc7e063d1da3907a8f4c", func := "loop.example/catechist/laws.FnExactTrmMake", spec := "fnExactTrmMake", inPlace := ["internal/bytealg.IndexByteString", "internal/bytealg.IndexString"], unfollowed := true, recurses := true, named := ["unicode/utf8.first", "unicode/utf8.acceptRanges", "internal/bytealg.MaxLen"], apart := false, laid := [("unicode/utf8.acceptRanges", laid_unicode_utf8_acceptRanges), ("unicode/utf8.first", laid_unicode_utf8_first)] }
def FnExactTrmMakeSaid : Prop := fnExactTrmMakeRow.holds Tryd.pinned (OpenSpec.ofChange fnExactTrmMakeSpec)

/-- ITS FALSE NEIGHBOUR: 'it returns false'. Refute it at one input. -/
def fnExactTrmMakeWrong : ChangeSpec := { name := "fnExactTrmMake", fn := fun _ => fun
  | [d1, d2] => { results := [.lit (.bool false)], args := [d1, d2] }
  | _ => none }
def FnExactTrmMakeWrongFalsely : Prop := fnExactTrmMakeRow.holds Tryd.pinned (OpenSpec.ofChange fnExactTrmMakeWrong)

/-- 'laws.FnGoalOk': WHATEVER THE INPUT: true; the input reads as it did. -/
def fnGoalOkSpec : ChangeSpec := { name := "fnGoalOk", fn := fun _ => fun
  | [d] => { results := [.lit (.bool true)], args := [d] }
  | _ => none }
def fnGoalOkRow : OpenClaim := { program := "ytlmeookaanjdiaadoor", sum := "cc98e38019efaba6124cad0e6fb71290d566f6484bfafc7e063d1da3907a8f4c", func := "loop.example/catechist/laws.FnGoalOk", spec := "fnGoalOk", inPlace := ["internal/bytealg.IndexByteString", "internal/bytealg.IndexString"], unfollowed := true, recurses := true, named := ["unicode/utf8.first", "unicode/utf8.acceptRanges", "internal/bytealg.MaxLen"], apart := false, laid := [("unicode/utf8.acceptRanges", laid_unicode_utf8_acceptRanges), ("unicode/utf8.first", laid_unicode_utf8_first)] }
def FnGoalOkSaid : Prop := fnGoalOkRow.holds Tryd.pinned (OpenSpec.ofChange fnGoalOkSpec)

/-- ITS FALSE NEIGHBOUR: 'it returns false'. Refute it at one input. -/
def fnGoalOkWrong : ChangeSpec := { name := "fnGoalOk", fn := fun _ => fun
  | [d] => { results := [.lit (.bool false)], args := [d] }
  | _ => none }
def FnGoalOkWrongFalsely : Prop := fnGoalOkRow.holds Tryd.pinned (OpenSpec.ofChange fnGoalOkWrong)

/-- 'laws.FnTrmCanon': WHATEVER THE INPUT: true; the input reads as it did. -/
def fnTrmCanonSpec : ChangeSpec := { name := "fnTrmCanon", fn := fun _ => fun
  | [d1, d2] => { results := [.lit (.bool true)], args := [d1, d2] }
  | _ => none }
def fnTrmCanonRow : OpenClaim := { program := "ytlmeookaanjdiaadoor", sum := "cc98e38019efaba6124cad0e6fb71290d566f6484bfafc7e063d1da3907a8f4c", func := "loop.example/catechist/laws.FnTrmCanon", spec := "fnTrmCanon", inPlace := ["internal/bytealg.IndexByteString", "internal/bytealg.IndexString"], unfollowed := true, recurses := true, named := ["unicode/utf8.first", "unicode/utf8.acceptRanges", "internal/bytealg.MaxLen"], apart := false, laid := [("unicode/utf8.acceptRanges", laid_unicode_utf8_acceptRanges), ("unicode/utf8.first", laid_unicode_utf8_first)] }
def FnTrmCanonSaid : Prop := fnTrmCanonRow.holds Tryd.pinned (OpenSpec.ofChange fnTrmCanonSpec)

/-- ITS FALSE NEIGHBOUR: 'it returns false'. Refute it at one input. -/
def fnTrmCanonWrong : ChangeSpec := { name := "fnTrmCanon", fn := fun _ => fun
  | [d1, d2] => { results := [.lit (.bool false)], args := [d1, d2] }
  | _ => none }
def FnTrmCanonWrongFalsely : Prop := fnTrmCanonRow.holds Tryd.pinned (OpenSpec.ofChange fnTrmCanonWrong)

/-- 'laws.FnExactPrgOk': WHATEVER THE INPUT: true; the input reads as it did. -/
def fnExactPrgOkSpec : ChangeSpec := { name := "fnExactPrgOk", fn := fun _ => fun
  | [d] => { results := [.lit (.bool true)], args := [d] }
  | _ => none }
def fnExactPrgOkRow : OpenClaim := { program := "ytlmeookaanjdiaadoor", sum := "cc98e38019efaba6124cad0e6fb71290d566f6484bfafc7e063d1da3907a8f4c", func := "loop.example/catechist/laws.FnExactPrgOk", spec := "fnExactPrgOk", inPlace := ["internal/bytealg.IndexByteString", "internal/bytealg.IndexString"], unfollowed := true, recurses := true, named := ["unicode/utf8.first", "unicode/utf8.acceptRanges", "internal/bytealg.MaxLen"], apart := false, laid := [("unicode/utf8.acceptRanges", laid_unicode_utf8_acceptRanges), ("unicode/utf8.first", laid_unicode_utf8_first)] }
def FnExactPrgOkSaid : Prop := fnExactPrgOkRow.holds Tryd.pinned (OpenSpec.ofChange fnExactPrgOkSpec)

/-- ITS FALSE NEIGHBOUR: 'it returns false'. Refute it at one input. -/
def fnExactPrgOkWrong : ChangeSpec := { name := "fnExactPrgOk", fn := fun _ => fun
  | [d] => { results := [.lit (.bool false)], args := [d] }
  | _ => none }
def FnExactPrgOkWrongFalsely : Prop := fnExactPrgOkRow.holds Tryd.pinned (OpenSpec.ofChange fnExactPrgOkWrong)

/-- 'laws.FnExactPrgNode': WHATEVER THE INPUT: true; the input reads as it did. -/
def fnExactPrgNodeSpec : ChangeSpec := { name := "fnExactPrgNode", fn := fun _ => fun
  | [d1, d2] => { results := [.lit (.bool true)], args := [d1, d2] }
  | _ => none }
def fnExactPrgNodeRow : OpenClaim := { program := "ytlmeookaanjdiaadoor", sum := "cc98e38019efaba6124cad0e6fb71290d566f6484bfafc7e063d1da3907a8f4c", func := "loop.example/catechist/laws.FnExactPrgNode", spec := "fnExactPrgNode", inPlace := ["internal/bytealg.IndexByteString", "internal/bytealg.IndexString"], unfollowed := true, recurses := true, named := ["unicode/utf8.first", "unicode/utf8.acceptRanges", "internal/bytealg.MaxLen"], apart := false, laid := [("unicode/utf8.acceptRanges", laid_unicode_utf8_acceptRanges), ("unicode/utf8.first", laid_unicode_utf8_first)] }
def FnExactPrgNodeSaid : Prop := fnExactPrgNodeRow.holds Tryd.pinned (OpenSpec.ofChange fnExactPrgNodeSpec)

/-- ITS FALSE NEIGHBOUR: 'it returns false'. Refute it at one input. -/
def fnExactPrgNodeWrong : ChangeSpec := { name := "fnExactPrgNode", fn := fun _ => fun
  | [d1, d2] => { results := [.lit (.bool false)], args := [d1, d2] }
  | _ => none }
def FnExactPrgNodeWrongFalsely : Prop := fnExactPrgNodeRow.holds Tryd.pinned (OpenSpec.ofChange fnExactPrgNodeWrong)

/- THE SECOND FORM. 'bulk': how many values and letters a reading holds, each counted each time it is reached (what is shared counts as often as it is met; a slice's spare places count too). A statement '..UptoSaid' is the law's where the arguments, and the package variables that the reading takes, are together of bulk at most 1048576: NARROWER than '..Said'. Prove '..Said' where nothing that the law and all that it calls make is longer than what came in: it says more and counts as full. Else prove '..UptoSaid'. A law counts once. -/
mutual
def uptoBulk {H : Type} : DataW H → Nat
  | .lit (.string bytes) => bytes.length + 1
  | .lit _ => 1
  | .nil => 1
  | .ptr d => uptoBulk d + 1
  | .slice elems spare => uptoBulkAll elems + uptoBulkAll spare + 1
  | .agg parts => uptoBulkAll parts + 1
  | .iface _ d => uptoBulk d + 1
  | .map entries => uptoBulkEntries entries + 1
  | .held _ => 1
def uptoBulkAll {H : Type} : List (DataW H) → Nat
  | [] => 0
  | d :: r => uptoBulk d + uptoBulkAll r
def uptoBulkEntries {H : Type} : List (Lit × DataW H) → Nat
  | [] => 0
  | x :: r => uptoBulkEntry x + uptoBulkEntries r
def uptoBulkEntry {H : Type} : Lit × DataW H → Nat
  | (.string bytes, d) => bytes.length + uptoBulk d + 1
  | (_, d) => uptoBulk d + 1
 end
def uptoSmall : (H : Type) → List (DataW H) → Bool := fun _ ds => decide (uptoBulkAll ds ≤ 1048576)
def OpenSpec.upto (s : _root_.Go.ChangeSpec) : _root_.Go.OpenSpec := { _root_.Go.OpenSpec.ofChange s with cond := some uptoSmall }

/-- 'laws.FnExactTrmOk', WHERE WHAT IT READS IS OF BULK AT MOST 1048576: true; the input reads as it did. -/
def fnExactTrmOkUptoRow : OpenClaim := { program := "ytlmeookaanjdiaadoor", sum := "cc98e38019efaba6124cad0e6fb71290d566f6484bfafc7e063d1da3907a8f4c", func := "loop.example/catechist/laws.FnExactTrmOk", spec := "fnExactTrmOk", inPlace := ["internal/bytealg.IndexByteString", "internal/bytealg.IndexString"], unfollowed := true, recurses := true, named := ["unicode/utf8.first", "unicode/utf8.acceptRanges", "internal/bytealg.MaxLen"], apart := false, laid := [("unicode/utf8.acceptRanges", laid_unicode_utf8_acceptRanges), ("unicode/utf8.first", laid_unicode_utf8_first)], narrowed := true }
def FnExactTrmOkUptoSaid : Prop := fnExactTrmOkUptoRow.holds Tryd.pinned (OpenSpec.upto fnExactTrmOkSpec)

/-- 'laws.FnTrmFree', WHERE WHAT IT READS IS OF BULK AT MOST 1048576: true; the input reads as it did. -/
def fnTrmFreeUptoRow : OpenClaim := { program := "ytlmeookaanjdiaadoor", sum := "cc98e38019efaba6124cad0e6fb71290d566f6484bfafc7e063d1da3907a8f4c", func := "loop.example/catechist/laws.FnTrmFree", spec := "fnTrmFree", inPlace := ["internal/bytealg.IndexByteString", "internal/bytealg.IndexString"], unfollowed := true, recurses := true, named := ["unicode/utf8.first", "unicode/utf8.acceptRanges", "internal/bytealg.MaxLen"], apart := false, laid := [("unicode/utf8.acceptRanges", laid_unicode_utf8_acceptRanges), ("unicode/utf8.first", laid_unicode_utf8_first)], narrowed := true }
def FnTrmFreeUptoSaid : Prop := fnTrmFreeUptoRow.holds Tryd.pinned (OpenSpec.upto fnTrmFreeSpec)

/-- 'laws.FnTrmWhole', WHERE WHAT IT READS IS OF BULK AT MOST 1048576: true; the input reads as it did. -/
def fnTrmWholeUptoRow : OpenClaim := { program := "ytlmeookaanjdiaadoor", sum := "cc98e38019efaba6124cad0e6fb71290d566f6484bfafc7e063d1da3907a8f4c", func := "loop.example/catechist/laws.FnTrmWhole", spec := "fnTrmWhole", inPlace := ["internal/bytealg.IndexByteString", "internal/bytealg.IndexString"], unfollowed := true, recurses := true, named := ["unicode/utf8.first", "unicode/utf8.acceptRanges", "internal/bytealg.MaxLen"], apart := false, laid := [("unicode/utf8.acceptRanges", laid_unicode_utf8_acceptRanges), ("unicode/utf8.first", laid_unicode_utf8_first)], narrowed := true }
def FnTrmWholeUptoSaid : Prop := fnTrmWholeUptoRow.holds Tryd.pinned (OpenSpec.upto fnTrmWholeSpec)

/-- 'laws.FnExactTrmArg', WHERE WHAT IT READS IS OF BULK AT MOST 1048576: true; the input reads as it did. -/
def fnExactTrmArgUptoRow : OpenClaim := { program := "ytlmeookaanjdiaadoor", sum := "cc98e38019efaba6124cad0e6fb71290d566f6484bfafc7e063d1da3907a8f4c", func := "loop.example/catechist/laws.FnExactTrmArg", spec := "fnExactTrmArg", inPlace := ["internal/bytealg.IndexByteString", "internal/bytealg.IndexString"], unfollowed := true, recurses := true, named := ["unicode/utf8.first", "unicode/utf8.acceptRanges", "internal/bytealg.MaxLen"], apart := false, laid := [("unicode/utf8.acceptRanges", laid_unicode_utf8_acceptRanges), ("unicode/utf8.first", laid_unicode_utf8_first)], narrowed := true }
def FnExactTrmArgUptoSaid : Prop := fnExactTrmArgUptoRow.holds Tryd.pinned (OpenSpec.upto fnExactTrmArgSpec)

/-- 'laws.FnExactGoalOk', WHERE WHAT IT READS IS OF BULK AT MOST 1048576: true; the input reads as it did. -/
def fnExactGoalOkUptoRow : OpenClaim := { program := "ytlmeookaanjdiaadoor", sum := "cc98e38019efaba6124cad0e6fb71290d566f6484bfafc7e063d1da3907a8f4c", func := "loop.example/catechist/laws.FnExactGoalOk", spec := "fnExactGoalOk", inPlace := ["internal/bytealg.IndexByteString", "internal/bytealg.IndexString"], unfollowed := true, recurses := true, named := ["unicode/utf8.first", "unicode/utf8.acceptRanges", "internal/bytealg.MaxLen"], apart := false, laid := [("unicode/utf8.acceptRanges", laid_unicode_utf8_acceptRanges), ("unicode/utf8.first", laid_unicode_utf8_first)], narrowed := true }
def FnExactGoalOkUptoSaid : Prop := fnExactGoalOkUptoRow.holds Tryd.pinned (OpenSpec.upto fnExactGoalOkSpec)

/-- 'laws.FnTrmShift', WHERE WHAT IT READS IS OF BULK AT MOST 1048576: true; the input reads as it did. -/
def fnTrmShiftUptoRow : OpenClaim := { program := "ytlmeookaanjdiaadoor", sum := "cc98e38019efaba6124cad0e6fb71290d566f6484bfafc7e063d1da3907a8f4c", func := "loop.example/catechist/laws.FnTrmShift", spec := "fnTrmShift", inPlace := ["internal/bytealg.IndexByteString", "internal/bytealg.IndexString"], unfollowed := true, recurses := true, named := ["unicode/utf8.first", "unicode/utf8.acceptRanges", "internal/bytealg.MaxLen"], apart := false, laid := [("unicode/utf8.acceptRanges", laid_unicode_utf8_acceptRanges), ("unicode/utf8.first", laid_unicode_utf8_first)], narrowed := true }
def FnTrmShiftUptoSaid : Prop := fnTrmShiftUptoRow.holds Tryd.pinned (OpenSpec.upto fnTrmShiftSpec)

/-- 'laws.FnExactTrmShift', WHERE WHAT IT READS IS OF BULK AT MOST 1048576: true; the input reads as it did. -/
def fnExactTrmShiftUptoRow : OpenClaim := { program := "ytlmeookaanjdiaadoor", sum := "cc98e38019efaba6124cad0e6fb71290d566f6484bfafc7e063d1da3907a8f4c", func := "loop.example/catechist/laws.FnExactTrmShift", spec := "fnExactTrmShift", inPlace := ["internal/bytealg.IndexByteString", "internal/bytealg.IndexString"], unfollowed := true, recurses := true, named := ["unicode/utf8.first", "unicode/utf8.acceptRanges", "internal/bytealg.MaxLen"], apart := false, laid := [("unicode/utf8.acceptRanges", laid_unicode_utf8_acceptRanges), ("unicode/utf8.first", laid_unicode_utf8_first)], narrowed := true }
def FnExactTrmShiftUptoSaid : Prop := fnExactTrmShiftUptoRow.holds Tryd.pinned (OpenSpec.upto fnExactTrmShiftSpec)

/-- 'laws.FnTrmArgs', WHERE WHAT IT READS IS OF BULK AT MOST 1048576: true; the input reads as it did. -/
def fnTrmArgsUptoRow : OpenClaim := { program := "ytlmeookaanjdiaadoor", sum := "cc98e38019efaba6124cad0e6fb71290d566f6484bfafc7e063d1da3907a8f4c", func := "loop.example/catechist/laws.FnTrmArgs", spec := "fnTrmArgs", inPlace := ["internal/bytealg.IndexByteString", "internal/bytealg.IndexString"], unfollowed := true, recurses := true, named := ["unicode/utf8.first", "unicode/utf8.acceptRanges", "internal/bytealg.MaxLen"], apart := false, laid := [("unicode/utf8.acceptRanges", laid_unicode_utf8_acceptRanges), ("unicode/utf8.first", laid_unicode_utf8_first)], narrowed := true }
def FnTrmArgsUptoSaid : Prop := fnTrmArgsUptoRow.holds Tryd.pinned (OpenSpec.upto fnTrmArgsSpec)

/-- 'laws.FnTrmArg', WHERE WHAT IT READS IS OF BULK AT MOST 1048576: true; the input reads as it did. -/
def fnTrmArgUptoRow : OpenClaim := { program := "ytlmeookaanjdiaadoor", sum := "cc98e38019efaba6124cad0e6fb71290d566f6484bfafc7e063d1da3907a8f4c", func := "loop.example/catechist/laws.FnTrmArg", spec := "fnTrmArg", inPlace := ["internal/bytealg.IndexByteString", "internal/bytealg.IndexString"], unfollowed := true, recurses := true, named := ["unicode/utf8.first", "unicode/utf8.acceptRanges", "internal/bytealg.MaxLen"], apart := false, laid := [("unicode/utf8.acceptRanges", laid_unicode_utf8_acceptRanges), ("unicode/utf8.first", laid_unicode_utf8_first)], narrowed := true }
def FnTrmArgUptoSaid : Prop := fnTrmArgUptoRow.holds Tryd.pinned (OpenSpec.upto fnTrmArgSpec)

/-- 'laws.FnTrmMake', WHERE WHAT IT READS IS OF BULK AT MOST 1048576: true; the input reads as it did. -/
def fnTrmMakeUptoRow : OpenClaim := { program := "ytlmeookaanjdiaadoor", sum := "cc98e38019efaba6124cad0e6fb71290d566f6484bfafc7e063d1da3907a8f4c", func := "loop.example/catechist/laws.FnTrmMake", spec := "fnTrmMake", inPlace := ["internal/bytealg.IndexByteString", "internal/bytealg.IndexString"], unfollowed := true, recurses := true, named := ["unicode/utf8.first", "unicode/utf8.acceptRanges", "internal/bytealg.MaxLen"], apart := false, laid := [("unicode/utf8.acceptRanges", laid_unicode_utf8_acceptRanges), ("unicode/utf8.first", laid_unicode_utf8_first)], narrowed := true }
def FnTrmMakeUptoSaid : Prop := fnTrmMakeUptoRow.holds Tryd.pinned (OpenSpec.upto fnTrmMakeSpec)

/-- 'laws.FnTrmRenamed', WHERE WHAT IT READS IS OF BULK AT MOST 1048576: true; the input reads as it did. -/
def fnTrmRenamedUptoRow : OpenClaim := { program := "ytlmeookaanjdiaadoor", sum := "cc98e38019efaba6124cad0e6fb71290d566f6484bfafc7e063d1da3907a8f4c", func := "loop.example/catechist/laws.FnTrmRenamed", spec := "fnTrmRenamed", inPlace := ["internal/bytealg.IndexByteString", "internal/bytealg.IndexString"], unfollowed := true, recurses := true, named := ["unicode/utf8.first", "unicode/utf8.acceptRanges", "internal/bytealg.MaxLen"], apart := false, laid := [("unicode/utf8.acceptRanges", laid_unicode_utf8_acceptRanges), ("unicode/utf8.first", laid_unicode_utf8_first)], narrowed := true }
def FnTrmRenamedUptoSaid : Prop := fnTrmRenamedUptoRow.holds Tryd.pinned (OpenSpec.upto fnTrmRenamedSpec)

/-- 'laws.FnExactTrmMake', WHERE WHAT IT READS IS OF BULK AT MOST 1048576: true; the input reads as it did. -/
def fnExactTrmMakeUptoRow : OpenClaim := { program := "ytlmeookaanjdiaadoor", sum := "cc98e38019efaba6124cad0e6fb71290d566f6484bfafc7e063d1da3907a8f4c", func := "loop.example/catechist/laws.FnExactTrmMake", spec := "fnExactTrmMake", inPlace := ["internal/bytealg.IndexByteString", "internal/bytealg.IndexString"], unfollowed := true, recurses := true, named := ["unicode/utf8.first", "unicode/utf8.acceptRanges", "internal/bytealg.MaxLen"], apart := false, laid := [("unicode/utf8.acceptRanges", laid_unicode_utf8_acceptRanges), ("unicode/utf8.first", laid_unicode_utf8_first)], narrowed := true }
def FnExactTrmMakeUptoSaid : Prop := fnExactTrmMakeUptoRow.holds Tryd.pinned (OpenSpec.upto fnExactTrmMakeSpec)

/-- 'laws.FnGoalOk', WHERE WHAT IT READS IS OF BULK AT MOST 1048576: true; the input reads as it did. -/
def fnGoalOkUptoRow : OpenClaim := { program := "ytlmeookaanjdiaadoor", sum := "cc98e38019efaba6124cad0e6fb71290d566f6484bfafc7e063d1da3907a8f4c", func := "loop.example/catechist/laws.FnGoalOk", spec := "fnGoalOk", inPlace := ["internal/bytealg.IndexByteString", "internal/bytealg.IndexString"], unfollowed := true, recurses := true, named := ["unicode/utf8.first", "unicode/utf8.acceptRanges", "internal/bytealg.MaxLen"], apart := false, laid := [("unicode/utf8.acceptRanges", laid_unicode_utf8_acceptRanges), ("unicode/utf8.first", laid_unicode_utf8_first)], narrowed := true }
def FnGoalOkUptoSaid : Prop := fnGoalOkUptoRow.holds Tryd.pinned (OpenSpec.upto fnGoalOkSpec)

/-- 'laws.FnTrmCanon', WHERE WHAT IT READS IS OF BULK AT MOST 1048576: true; the input reads as it did. -/
def fnTrmCanonUptoRow : OpenClaim := { program := "ytlmeookaanjdiaadoor", sum := "cc98e38019efaba6124cad0e6fb71290d566f6484bfafc7e063d1da3907a8f4c", func := "loop.example/catechist/laws.FnTrmCanon", spec := "fnTrmCanon", inPlace := ["internal/bytealg.IndexByteString", "internal/bytealg.IndexString"], unfollowed := true, recurses := true, named := ["unicode/utf8.first", "unicode/utf8.acceptRanges", "internal/bytealg.MaxLen"], apart := false, laid := [("unicode/utf8.acceptRanges", laid_unicode_utf8_acceptRanges), ("unicode/utf8.first", laid_unicode_utf8_first)], narrowed := true }
def FnTrmCanonUptoSaid : Prop := fnTrmCanonUptoRow.holds Tryd.pinned (OpenSpec.upto fnTrmCanonSpec)

/-- 'laws.FnExactPrgOk', WHERE WHAT IT READS IS OF BULK AT MOST 1048576: true; the input reads as it did. -/
def fnExactPrgOkUptoRow : OpenClaim := { program := "ytlmeookaanjdiaadoor", sum := "cc98e38019efaba6124cad0e6fb71290d566f6484bfafc7e063d1da3907a8f4c", func := "loop.example/catechist/laws.FnExactPrgOk", spec := "fnExactPrgOk", inPlace := ["internal/bytealg.IndexByteString", "internal/bytealg.IndexString"], unfollowed := true, recurses := true, named := ["unicode/utf8.first", "unicode/utf8.acceptRanges", "internal/bytealg.MaxLen"], apart := false, laid := [("unicode/utf8.acceptRanges", laid_unicode_utf8_acceptRanges), ("unicode/utf8.first", laid_unicode_utf8_first)], narrowed := true }
def FnExactPrgOkUptoSaid : Prop := fnExactPrgOkUptoRow.holds Tryd.pinned (OpenSpec.upto fnExactPrgOkSpec)

/-- 'laws.FnExactPrgNode', WHERE WHAT IT READS IS OF BULK AT MOST 1048576: true; the input reads as it did. -/
def fnExactPrgNodeUptoRow : OpenClaim := { program := "ytlmeookaanjdiaadoor", sum := "cc98e38019efaba6124cad0e6fb71290d566f6484bfafc7e063d1da3907a8f4c", func := "loop.example/catechist/laws.FnExactPrgNode", spec := "fnExactPrgNode", inPlace := ["internal/bytealg.IndexByteString", "internal/bytealg.IndexString"], unfollowed := true, recurses := true, named := ["unicode/utf8.first", "unicode/utf8.acceptRanges", "internal/bytealg.MaxLen"], apart := false, laid := [("unicode/utf8.acceptRanges", laid_unicode_utf8_acceptRanges), ("unicode/utf8.first", laid_unicode_utf8_first)], narrowed := true }
def FnExactPrgNodeUptoSaid : Prop := fnExactPrgNodeUptoRow.holds Tryd.pinned (OpenSpec.upto fnExactPrgNodeSpec)

end Rows
end Go.Proofs.YtlmeookaanjdiaaDoor
