/- Contracts of functions of the program: each as a Lean function, and that its call does what that says; printed by cprint.py (this session) over print.py of the kit. Conditions: the hypotheses of each theorem. -/
import Derived.Test.YtibencknfheplaaDoorP0
import Derived.Test.YtibencknfheplaaDoorP6
import Derived.Test.YtibencknfheplaaDoorP8
namespace Go.Proofs.YtibencknfheplaaDoor.P
open Go.RowKit Go.Proofs.YtibencknfheplaaDoorW.PrintWords Go.Proofs.YtibencknfheplaaDoorW.PrintLast Go.Proofs.YtibencknfheplaaDoorW.PrintMore
attribute [local go_sem] max2_int min2_int max_two min_two max_three min_three max_four min_four   -- for this text's walks alone
set_option linter.unusedVariables false
set_option linter.unusedSimpArgs false

/-! ### impl_TrmText: function 9 -/
def impl_TrmText.f (k : Nat) (l0 : List (S34)) : Option ByteArray := if Cat.isTerm l0 = true then (textF k k l0).bind fun m => if m.length ≤ 1000000000 then some (⟨m.toArray⟩ : ByteArray) else none else some (⟨#[]⟩ : ByteArray)
theorem impl_TrmText.mono : ∀ a0 k, LeO (impl_TrmText.f k a0) (impl_TrmText.f (k + 1) a0) := fun a0 k => LeO.ite (LeO.bind (textF_mono k k a0) (fun _ => LeO.refl _)) (LeO.refl _)
theorem BS.fresh (w : World) : BS w.heap.size w.heap.size (.slice none 0 0) [] (w.alloc (.cells #[.pointer none, .slice none 0 0] 47)) :=
  ⟨_, .inl rfl, Nat.le_refl _, heap_alloc_new w _, World.ownsRowF_nil _ _ _ _, by simp [Value.ownBlock]⟩
theorem BS.isB {B b : Nat} {v : Value} {l : List UInt8} {W : World} (h : BS B b v l W) : Lib.IsBuilderF 47 5 B b (Lib.byteCells l) W := by
  obtain ⟨p, hp, h1, h2, h3, h4⟩ := h
  rw [← Lib.byteCells_length] at h3
  rcases hp with rfl | rfl
  · exact .inl ⟨h1, v, h2, h3, h4⟩
  · exact .inr ⟨h1, v, h2, h3, h4⟩
theorem string_calls {B b : Nat} {v : Value} {l : List UInt8} {W : World} (h : BS B b v l W) :
    Calls Tryd.prog 23 #[.pointer (some ⟨b, 0, none⟩)] W fun e w' => e = .returned (.string ⟨l.toArray⟩) ∧ Below B W w' :=
  (Tryd.Builder_String_any_k B b l W h.isB (by obtain ⟨p, _, q⟩ := h; have := q.1; have := q.lt; omega)).mono fun e w' ⟨h1, _, h2, _⟩ => ⟨h1, h2⟩
theorem text_fresh (k : Nat) (l0 : List Cat.Cell) (m : List UInt8) (A0 : Option Addr) (c0 : Nat) (w w1 : World) (hT : TabT w) (hb : Below w.heap.size w w1) (hr0 : Kd.C k34 w A0 l0.length l0) (hc0 : l0.length ≤ c0) (hm : textF k k l0 = some m) (hl : m.length ≤ 1000000000) :
    Calls Tryd.prog 22 #[.pointer (some ⟨w1.heap.size, 0, none⟩), .slice A0 l0.length c0] (w1.alloc (.cells #[.pointer none, .slice none 0 0] 47)) fun e w' => e = .returned (.tuple #[]) ∧ ∃ v', BS w1.heap.size w1.heap.size v' m w' ∧ Below w1.heap.size w1 w' := by
  refine (impl_text.any k w1.heap.size w1.heap.size k l0 m [] (.slice none 0 0) (fun k_ => k_ < w1.heap.size) A0 c0 _ hm (BS.fresh w1) (TabB.step (hT.below hb) (below_alloc (Below.refl _ _) _)) (fun k_ hk_ => ⟨Nat.ne_of_lt hk_, by simp [Value.ownBlock]⟩) (Kd.F_alloc (Kd.C_F k34_heap (Kd.C_below hr0 hb)) _) hc0 (by simp; omega)).mono ?_
  rintro e w' ⟨he, v', h1, h2, h3⟩
  refine ⟨he, v', h1, (below_alloc (Below.refl _ _) _).trans (h2.below (BS.fresh w1))⟩
set_option maxHeartbeats 4000000 in
set_option maxRecDepth 100000 in
theorem impl_TrmText.calls (k : Nat) (A0 : Option Addr) (c0 : Nat) (l0 : List (S34)) (r : ByteArray) (w : World) (hT_ : TabT w) (hr0 : Kd.C k34 w A0 l0.length l0) (hc0 : l0.length ≤ c0) (h : impl_TrmText.f k l0 = some r) :
    Calls Tryd.prog 9 #[.slice A0 l0.length c0] w fun e w' => e = .returned (.string r) ∧ Below w.heap.size w w' := by
  unfold impl_TrmText.f at h
  have HT := Aside0.mk hT_
  have HR := Aside0.mk hr0
  have HC := Aside0.mk hc0
  clear hT_ hr0 hc0
  by_cases ht : Cat.isTerm l0 = true
  · rw [if_pos ht] at h
    obtain ⟨m, hm, h⟩ := Option.bind_eq_some_iff.1 h
    by_cases hl : m.length ≤ 1000000000
    case neg => rw [if_neg hl] at h; cases h
    rw [if_pos hl] at h
    obtain rfl := Option.some.inj h
    have HM := Aside0.mk hm
    have HL := Aside0.mk hl
    have HO := Aside0.mk (show impl_TrmOk.f l0 = some true by rw [show impl_TrmOk.f l0 = some (Cat.isTerm l0) from rfl, ht])
    clear h hm hl ht
    go_enter Tryd.func9, Tryd.ntmps9
    go_wp2_with (first
      | (go_at_call 21; (with_reducible refine (impl_TrmOk.calls A0 c0 l0 true w HR.out HC.out HO.out).mono ?_); rintro e w1 ⟨rfl, hb1⟩; have HB1 := Aside0.mk hb1; clear hb1)
      | (go_at_call 22; (with_reducible refine (text_fresh k l0 m A0 c0 w w1 HT.out HB1.out HR.out HC.out HM.out HL.out).mono ?_); rintro e w2 ⟨rfl, v2, h2, hb2⟩; have HS2 := Aside0.mk h2; have HB2 := Aside0.mk (HB1.out.trans (hb2.mono HB1.out.size)); clear h2 hb2)
      | (go_at_call 23; (with_reducible refine (string_calls HS2.out).mono ?_); rintro e w3 ⟨rfl, hb3⟩; have HB3 := Aside0.mk (HB2.out.trans (hb3.mono HB1.out.size)); clear hb3))
    go_ret
    exact ⟨rfl, HB3.out⟩
  · rw [if_neg ht] at h
    obtain rfl := Option.some.inj h
    have HO := Aside0.mk (show impl_TrmOk.f l0 = some false by rw [show impl_TrmOk.f l0 = some (Cat.isTerm l0) from rfl, Bool.eq_false_iff.2 ht])
    clear h ht
    go_enter Tryd.func9, Tryd.ntmps9
    go_wp2_with (go_at_call 21; (with_reducible refine (impl_TrmOk.calls A0 c0 l0 false w HR.out HC.out HO.out).mono ?_); rintro e w1 ⟨rfl, hb1⟩; have HB1 := Aside0.mk hb1; clear hb1)
    go_ret
    exact ⟨rfl, HB1.out⟩

end Go.Proofs.YtibencknfheplaaDoor.P
