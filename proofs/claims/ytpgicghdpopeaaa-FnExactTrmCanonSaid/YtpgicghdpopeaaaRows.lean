/-
  No cell of these rows narrows 'for every input' (looked for: loops, veiled, ifaces, maps, wideKeys, modest, calm, conditions, laid).
  DERIVED. THE GIVEN ROWS OF THIS SEAT. 5 by the template 'for every input the law returns true; each argument reads behind the call as it read before'; 0 by the template 'total and deterministic' (their statements: YtpgicghdpopeaaaTotals.lean).
  GIVEN WITH THE SEED: the statements are not yours to turn. If you find one false, say at which input.
  Laid BY PROGRAM, IN A SANDBOX (cutbox-rows.mjs): the forced cells as the released guide's own fill.sh prints them over the translation 7f206fa6e1a35cbb… (all of the seat's roots in one cut). By AI agents, Wed Nov 11 2026. No macro, syntax, notation, axiom, sorry.
-/
import Derived.Test.YtpgicghdpopeaaaChecked
import GoSem.Claim
import GoSem.ClaimJoined
import GoSem.ClaimMapViews
import Derived.JoinedTies
import Derived.KernelRfl
namespace Go.Proofs.Ytpgicghdpopeaaa
/- THE CELL 'sum', in the pinned program and in every row, IS THE sha256 OF THE DUMP (.gsa) THAT YtpgicghdpopeaaaProg.lean LOADS. Nothing in Lean hashes anything: it is a label: what it is worth is what the hold of that sum in a sandbox is worth. -/
noncomputable def Try.pinned : Pinned := { name := "ytpgicghdpopeaaa", sum := "7f206fa6e1a35cbbd80f8cdd66b3b3b317c2738853d7c8dcfdcbaf9efc8e73cb", checked := Try.checked }
namespace Rows
def none {H : Type} : Left H := { results := [], args := [] }

/-- 'laws.FnExactConstants': WHATEVER THE INPUT: true; the input reads as it did. -/
def fnExactConstantsSpec : ChangeSpec := { name := "fnExactConstants", fn := fun _ => fun
  | [] => { results := [.lit (.bool true)], args := [] }
  | _ => none }
def fnExactConstantsRow : OpenClaim := { program := "ytpgicghdpopeaaa", sum := "7f206fa6e1a35cbbd80f8cdd66b3b3b317c2738853d7c8dcfdcbaf9efc8e73cb", func := "loop.example/catechist/laws.FnExactConstants", spec := "fnExactConstants", apart := false }
def FnExactConstantsSaid : Prop := fnExactConstantsRow.holds Try.pinned (OpenSpec.ofChange fnExactConstantsSpec)

/-- ITS FALSE NEIGHBOUR: 'it returns false'. Refute it at one input. -/
def fnExactConstantsWrong : ChangeSpec := { name := "fnExactConstants", fn := fun _ => fun
  | [] => { results := [.lit (.bool false)], args := [] }
  | _ => none }
def FnExactConstantsWrongFalsely : Prop := fnExactConstantsRow.holds Try.pinned (OpenSpec.ofChange fnExactConstantsWrong)

/-- 'laws.FnExactTrmSame': WHATEVER THE INPUT: true; the input reads as it did. -/
def fnExactTrmSameSpec : ChangeSpec := { name := "fnExactTrmSame", fn := fun _ => fun
  | [d1, d2] => { results := [.lit (.bool true)], args := [d1, d2] }
  | _ => none }
def fnExactTrmSameRow : OpenClaim := { program := "ytpgicghdpopeaaa", sum := "7f206fa6e1a35cbbd80f8cdd66b3b3b317c2738853d7c8dcfdcbaf9efc8e73cb", func := "loop.example/catechist/laws.FnExactTrmSame", spec := "fnExactTrmSame", apart := false }
def FnExactTrmSameSaid : Prop := fnExactTrmSameRow.holds Try.pinned (OpenSpec.ofChange fnExactTrmSameSpec)

/-- ITS FALSE NEIGHBOUR: 'it returns false'. Refute it at one input. -/
def fnExactTrmSameWrong : ChangeSpec := { name := "fnExactTrmSame", fn := fun _ => fun
  | [d1, d2] => { results := [.lit (.bool false)], args := [d1, d2] }
  | _ => none }
def FnExactTrmSameWrongFalsely : Prop := fnExactTrmSameRow.holds Try.pinned (OpenSpec.ofChange fnExactTrmSameWrong)

/-- 'laws.FnExactTrmFree': WHATEVER THE INPUT: true; the input reads as it did. -/
def fnExactTrmFreeSpec : ChangeSpec := { name := "fnExactTrmFree", fn := fun _ => fun
  | [d] => { results := [.lit (.bool true)], args := [d] }
  | _ => none }
def fnExactTrmFreeRow : OpenClaim := { program := "ytpgicghdpopeaaa", sum := "7f206fa6e1a35cbbd80f8cdd66b3b3b317c2738853d7c8dcfdcbaf9efc8e73cb", func := "loop.example/catechist/laws.FnExactTrmFree", spec := "fnExactTrmFree", apart := false }
def FnExactTrmFreeSaid : Prop := fnExactTrmFreeRow.holds Try.pinned (OpenSpec.ofChange fnExactTrmFreeSpec)

/-- ITS FALSE NEIGHBOUR: 'it returns false'. Refute it at one input. -/
def fnExactTrmFreeWrong : ChangeSpec := { name := "fnExactTrmFree", fn := fun _ => fun
  | [d] => { results := [.lit (.bool false)], args := [d] }
  | _ => none }
def FnExactTrmFreeWrongFalsely : Prop := fnExactTrmFreeRow.holds Try.pinned (OpenSpec.ofChange fnExactTrmFreeWrong)

/-- 'laws.FnExactTrmCanon': WHATEVER THE INPUT: true; the input reads as it did. -/
def fnExactTrmCanonSpec : ChangeSpec := { name := "fnExactTrmCanon", fn := fun _ => fun
  | [d] => { results := [.lit (.bool true)], args := [d] }
  | _ => none }
def fnExactTrmCanonRow : OpenClaim := { program := "ytpgicghdpopeaaa", sum := "7f206fa6e1a35cbbd80f8cdd66b3b3b317c2738853d7c8dcfdcbaf9efc8e73cb", func := "loop.example/catechist/laws.FnExactTrmCanon", spec := "fnExactTrmCanon", apart := false }
def FnExactTrmCanonSaid : Prop := fnExactTrmCanonRow.holds Try.pinned (OpenSpec.ofChange fnExactTrmCanonSpec)

/-- ITS FALSE NEIGHBOUR: 'it returns false'. Refute it at one input. -/
def fnExactTrmCanonWrong : ChangeSpec := { name := "fnExactTrmCanon", fn := fun _ => fun
  | [d] => { results := [.lit (.bool false)], args := [d] }
  | _ => none }
def FnExactTrmCanonWrongFalsely : Prop := fnExactTrmCanonRow.holds Try.pinned (OpenSpec.ofChange fnExactTrmCanonWrong)

/-- 'laws.FnExactSubGet': WHATEVER THE INPUT: true; the input reads as it did. -/
def fnExactSubGetSpec : ChangeSpec := { name := "fnExactSubGet", fn := fun _ => fun
  | [d1, d2] => { results := [.lit (.bool true)], args := [d1, d2] }
  | _ => none }
def fnExactSubGetRow : OpenClaim := { program := "ytpgicghdpopeaaa", sum := "7f206fa6e1a35cbbd80f8cdd66b3b3b317c2738853d7c8dcfdcbaf9efc8e73cb", func := "loop.example/catechist/laws.FnExactSubGet", spec := "fnExactSubGet", unfollowed := true, recurses := true, apart := false }
def FnExactSubGetSaid : Prop := fnExactSubGetRow.holds Try.pinned (OpenSpec.ofChange fnExactSubGetSpec)

/-- ITS FALSE NEIGHBOUR: 'it returns false'. Refute it at one input. -/
def fnExactSubGetWrong : ChangeSpec := { name := "fnExactSubGet", fn := fun _ => fun
  | [d1, d2] => { results := [.lit (.bool false)], args := [d1, d2] }
  | _ => none }
def FnExactSubGetWrongFalsely : Prop := fnExactSubGetRow.holds Try.pinned (OpenSpec.ofChange fnExactSubGetWrong)

/- THE SECOND FORM. 'bulk': how many values and letters a reading holds, each counted each time it is reached (what is shared counts as often as it is met; a slice's spare places count too). A statement '..UptoSaid' is the law's where the arguments, and the package variables that the reading takes, are together of bulk at most 1048576: NARROWER than '..Said'. Prove '..Said' where nothing that the law and all that it calls make is longer than what came in: it says more and counts as full. Else prove '..UptoSaid'. A law counts once. -/
mutual
def uptoBulk {H : Type} : DataW H → Nat
  | .lit (.string bytes) => bytes.length + 1
  | .lit _ => 1
  | .nil => 1
  | .ptr d => uptoBulk d + 1
  | .slice elems spare => uptoBulkAll elems + uptoBulkAll spare + 1
  | .agg parts => uptoBulkAll parts + 1
  | .iface _ d => uptoBulk d + 1
  | .map entries => uptoBulkEntries entries + 1
  | .held _ => 1
def uptoBulkAll {H : Type} : List (DataW H) → Nat
  | [] => 0
  | d :: r => uptoBulk d + uptoBulkAll r
def uptoBulkEntries {H : Type} : List (Lit × DataW H) → Nat
  | [] => 0
  | x :: r => uptoBulkEntry x + uptoBulkEntries r
def uptoBulkEntry {H : Type} : Lit × DataW H → Nat
  | (.string bytes, d) => bytes.length + uptoBulk d + 1
  | (_, d) => uptoBulk d + 1
 end
def uptoSmall : (H : Type) → List (DataW H) → Bool := fun _ ds => decide (uptoBulkAll ds ≤ 1048576)
def OpenSpec.upto (s : _root_.Go.ChangeSpec) : _root_.Go.OpenSpec := { _root_.Go.OpenSpec.ofChange s with cond := some uptoSmall }

/-- 'laws.FnExactConstants', WHERE WHAT IT READS IS OF BULK AT MOST 1048576: true; the input reads as it did. -/
def fnExactConstantsUptoRow : OpenClaim := { program := "ytpgicghdpopeaaa", sum := "7f206fa6e1a35cbbd80f8cdd66b3b3b317c2738853d7c8dcfdcbaf9efc8e73cb", func := "loop.example/catechist/laws.FnExactConstants", spec := "fnExactConstants", apart := false, narrowed := true }
def FnExactConstantsUptoSaid : Prop := fnExactConstantsUptoRow.holds Try.pinned (OpenSpec.upto fnExactConstantsSpec)

/-- 'laws.FnExactTrmSame', WHERE WHAT IT READS IS OF BULK AT MOST 1048576: true; the input reads as it did. -/
def fnExactTrmSameUptoRow : OpenClaim := { program := "ytpgicghdpopeaaa", sum := "7f206fa6e1a35cbbd80f8cdd66b3b3b317c2738853d7c8dcfdcbaf9efc8e73cb", func := "loop.example/catechist/laws.FnExactTrmSame", spec := "fnExactTrmSame", apart := false, narrowed := true }
def FnExactTrmSameUptoSaid : Prop := fnExactTrmSameUptoRow.holds Try.pinned (OpenSpec.upto fnExactTrmSameSpec)

/-- 'laws.FnExactTrmFree', WHERE WHAT IT READS IS OF BULK AT MOST 1048576: true; the input reads as it did. -/
def fnExactTrmFreeUptoRow : OpenClaim := { program := "ytpgicghdpopeaaa", sum := "7f206fa6e1a35cbbd80f8cdd66b3b3b317c2738853d7c8dcfdcbaf9efc8e73cb", func := "loop.example/catechist/laws.FnExactTrmFree", spec := "fnExactTrmFree", apart := false, narrowed := true }
def FnExactTrmFreeUptoSaid : Prop := fnExactTrmFreeUptoRow.holds Try.pinned (OpenSpec.upto fnExactTrmFreeSpec)

/-- 'laws.FnExactTrmCanon', WHERE WHAT IT READS IS OF BULK AT MOST 1048576: true; the input reads as it did. -/
def fnExactTrmCanonUptoRow : OpenClaim := { program := "ytpgicghdpopeaaa", sum := "7f206fa6e1a35cbbd80f8cdd66b3b3b317c2738853d7c8dcfdcbaf9efc8e73cb", func := "loop.example/catechist/laws.FnExactTrmCanon", spec := "fnExactTrmCanon", apart := false, narrowed := true }
def FnExactTrmCanonUptoSaid : Prop := fnExactTrmCanonUptoRow.holds Try.pinned (OpenSpec.upto fnExactTrmCanonSpec)

/-- 'laws.FnExactSubGet', WHERE WHAT IT READS IS OF BULK AT MOST 1048576: true; the input reads as it did. -/
def fnExactSubGetUptoRow : OpenClaim := { program := "ytpgicghdpopeaaa", sum := "7f206fa6e1a35cbbd80f8cdd66b3b3b317c2738853d7c8dcfdcbaf9efc8e73cb", func := "loop.example/catechist/laws.FnExactSubGet", spec := "fnExactSubGet", unfollowed := true, recurses := true, apart := false, narrowed := true }
def FnExactSubGetUptoSaid : Prop := fnExactSubGetUptoRow.holds Try.pinned (OpenSpec.upto fnExactSubGetSpec)

end Rows
end Go.Proofs.Ytpgicghdpopeaaa
