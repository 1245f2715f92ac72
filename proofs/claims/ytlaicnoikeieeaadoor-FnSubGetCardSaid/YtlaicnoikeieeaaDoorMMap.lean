/- A map of the call's own, keyed by numbers of 0 to 99999, told by what it holds: over the kit's laws on a map's block. Conditions: each theorem's own. -/
import Derived.Test.YtlaicnoikeieeaaDoorProg
import Derived.Test.YtlaicnoikeieeaaDoorMDfs
import Derived.Maps.Own
import Derived.Maps.OwnOps
import Derived.Below
import Derived.WalkKit
namespace Go.Proofs.YtlaicnoikeieeaaDoor.Mp
open Go Go.Maps Go.MapKept Go.ChangeMaps Go.ChangeShapes Go.WideShapes Go.RowKit
open Go.Proofs.YtlaicnoikeieeaaDoor.Cat (upd upd_same upd_ne)
open Go.WideElems (Fit rd rg pl rd_key rd_val rg_of rd_mk)
set_option linter.unusedVariables false
set_option linter.unusedSimpArgs false

/-- an element as it stands -/
def rawR (v : Value) : Option (DataW Value × List MemPlace) := some (.held v, [])

/-- block b is a map, keyed by numbers of 0 to 99999, that holds f -/
def MapIs (P : Program) (k : TypeId) (w : World) (b : Nat) (f : Int → Option Value) : Prop :=
 ∃ es clock, w.heap[b]? = some (.map es clock) ∧ Fit P k rawR es clock ∧ (∀ x ∈ es.toList, ∃ z, x.key = .int .i64 z ∧ 0 ≤ z ∧ z ≤ 99999 ∧ f z = some x.val) ∧ ∀ z v, f z = some v → ∃ x ∈ es.toList, x.key = .int .i64 z ∧ x.val = v

theorem MapIs.lt {P : Program} {k : TypeId} {w : World} {b : Nat} {f : Int → Option Value} (h : MapIs P k w b f) : b < w.heap.size := by
 obtain ⟨es, clock, hb, _⟩ := h
 exact (Array.getElem?_eq_some_iff.1 hb).1
theorem MapIs.same {P : Program} {k : TypeId} {w w' : World} {b : Nat} {f : Int → Option Value} (h : MapIs P k w b f) (hb : w'.heap[b]? = w.heap[b]?) : MapIs P k w' b f := by
 obtain ⟨es, clock, h1, h2⟩ := h
 exact ⟨es, clock, hb.trans h1, h2⟩
theorem MapIs.below {P : Program} {k : TypeId} {w w' : World} {b n : Nat} {f : Int → Option Value} (h : MapIs P k w b f) (hb : Below n w w') (hn : b < n) : MapIs P k w' b f := h.same (hb.block b hn)
theorem MapIs.step {P : Program} {k : TypeId} {w w' : World} {b : Nat} {f : Int → Option Value} (h : MapIs P k w b f) (hb : Below w.heap.size w w') : MapIs P k w' b f := h.same (hb.block b h.lt)
theorem MapIs.made (P : Program) (k : TypeId) (w : World) : MapIs P k (w.alloc (.map #[] 0)) w.heap.size (fun _ => none) :=
 ⟨#[], 0, (MapKept.heap_alloc w _).1, ⟨by simp, stamped_empty 0, by simp⟩, (by intro x hx; simp at hx), (by intro z v h; cases h)⟩

variable {P : Program} {k e t : TypeId} {w : World} {b : Nat} {f : Int → Option Value}

end Go.Proofs.YtlaicnoikeieeaaDoor.Mp
