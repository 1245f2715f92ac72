/- Two lists of places are the same, by the reference and by the program. -/
import Derived.Test.YtpgicghdpopeaaaP2
import Derived.Test.YtpgicghdpopeaaaP3
import Derived.Test.YtpgicghdpopeaaaMLaw
namespace Go.Proofs.Ytpgicghdpopeaaa.P
set_option linter.unusedVariables false
set_option linter.unusedSimpArgs false
open Go.RowKit Go.Proofs.Ytpgicghdpopeaaa.Cat Go.Proofs.YtpgicghdpopeaaaW.PrintWords Go.Proofs.YtpgicghdpopeaaaW.PrintLast

theorem ne_cells (c d : Cell) : ((!(c.f0 == d.f0) || (!(c.f1 == d.f1) || (!((c.f2.toList) == (d.f2.toList))))) = true) ↔ c ≠ d := by
  rw [Ne, ← decide_eq_true_iff (p := c = d)]
  by_cases h : c = d
  · subst h; simp
  · simp only [h, decide_false]
    constructor
    · intro _; simp
    · intro _
      by_cases h0 : c.f0 = d.f0
      · by_cases h1 : c.f1 = d.f1
        · by_cases h2 : c.f2.toList = d.f2.toList
          · exact absurd (Cell.ext' h0 h1 (ba_ext (by rw [← Lib.toList_data, ← Lib.toList_data]; exact h2))) h
          · simp [h2]
        · simp [h1]
      · simp [h0]

theorem ssame_loop : ∀ (r s a b : List Cell), a.length = b.length → r.length = s.length → a.length + r.length ≤ 9223372036854775806 →
    Ev (fun k => spec_TrmSame.l0 k (a ++ r) (b ++ s) ((a.length : Nat) : Int)) (decide (r = s))
  | [], s, a, b, hab, hrs, hl => by
    have : s = [] := by cases s with
      | nil => rfl
      | cons => simp at hrs
    subst this
    refine Ev.step (f := fun _ => some true) (fun k => ?_) (by simpa using Ev.now true)
    simp only [spec_TrmSame.l0]
    rw [if_neg (not_lt_app a)]
  | c :: r, [], a, b, hab, hrs, hl => by simp at hrs
  | c :: r, d :: s, a, b, hab, hrs, hl => by
    have e : ∀ k, spec_TrmSame.l0 (k + 1) (a ++ c :: r) (b ++ d :: s) ((a.length : Nat) : Int) = if c = d then spec_TrmSame.l0 k (a ++ c :: r) (b ++ d :: s) ((a.length + 1 : Nat) : Int) else some false := by
      intro k
      simp only [spec_TrmSame.l0]
      rw [if_pos (lt_app a r c), if_pos (by omega), if_pos (by rw [hab]; exact lt_app b s d), rdC]
      conv => lhs; rw [show ((a.length : Nat) : Int) = ((b.length : Nat) : Int) by rw [hab]]
      rw [rdC, wnext (by simp at hl; omega), hab]
      by_cases h : c = d
      · rw [if_pos h, if_neg (by rw [ne_cells]; simp [h])]
      · rw [if_neg h, if_pos ((ne_cells c d).2 h)]
    by_cases h : c = d
    · subst h
      have ih := ssame_loop r s (a ++ [c]) (b ++ [c]) (by simp [hab]) (by simpa using hrs) (by simp at hl ⊢; omega)
      rw [snoc_len] at ih
      simp only [List.append_assoc, List.singleton_append] at ih
      have e2 : decide (c :: r = c :: s) = decide (r = s) := by simp
      rw [e2]
      refine Ev.step (fun k => ?_) ih
      rw [e, if_pos rfl]
    · refine Ev.step (f := fun _ => some false) (fun k => ?_) (by simpa [h] using Ev.now false)
      rw [e, if_neg h]

theorem ssame_ev (l m : List Cell) (h : l.length ≤ 1099511627776) : Ev (fun k => spec_TrmSame.f k l m) (decide (l = m)) := by
  by_cases hl : l.length = m.length
  · refine Ev.congr (fun k => ?_) (ssame_loop l m [] [] rfl hl (by simp; omega))
    unfold spec_TrmSame.f
    rw [if_pos (by omega)]
    rfl
  · have : l ≠ m := fun e => hl (by rw [e])
    refine Ev.all (fun k => ?_)
    unfold spec_TrmSame.f
    rw [if_neg (by omega)]
    simp [this]

theorem isame_loop : ∀ (r s a b : List Cell) (n : Int), n = ((a ++ r).length : Int) → a.length = b.length → r.length = s.length → a.length + r.length ≤ 9223372036854775806 →
    Ev (fun k => slices_Equal_TrmCell.l0 k (a ++ r) (b ++ s) n ((a.length : Nat) : Int)) (decide (r = s))
  | [], s, a, b, n, hn, hab, hrs, hl => by
    have : s = [] := by cases s with
      | nil => rfl
      | cons => simp at hrs
    subst this
    subst hn
    refine Ev.step (f := fun _ => some true) (fun k => ?_) (by simpa using Ev.now true)
    simp only [slices_Equal_TrmCell.l0]
    rw [if_neg (not_lt_app a)]
  | c :: r, [], a, b, n, hn, hab, hrs, hl => by simp at hrs
  | c :: r, d :: s, a, b, n, hn, hab, hrs, hl => by
    have e : ∀ k, slices_Equal_TrmCell.l0 (k + 1) (a ++ c :: r) (b ++ d :: s) n ((a.length : Nat) : Int) = if c = d then slices_Equal_TrmCell.l0 k (a ++ c :: r) (b ++ d :: s) n ((a.length + 1 : Nat) : Int) else some false := by
      intro k
      simp only [slices_Equal_TrmCell.l0]
      rw [if_pos (by rw [hn]; exact lt_app a r c), if_pos (by omega), if_pos (lt_app a r c), if_pos (by rw [hab]; exact lt_app b s d), rdC]
      conv => lhs; rw [show ((a.length : Nat) : Int) = ((b.length : Nat) : Int) by rw [hab]]
      rw [rdC, wnext (by simp at hl; omega), hab]
      by_cases h : c = d
      · rw [if_pos h, if_neg (by rw [ne_cells]; simp [h])]
      · rw [if_neg h, if_pos ((ne_cells c d).2 h)]
    by_cases h : c = d
    · subst h
      have ih := isame_loop r s (a ++ [c]) (b ++ [c]) n (by rw [hn]; simp) (by simp [hab]) (by simpa using hrs) (by simp at hl ⊢; omega)
      rw [snoc_len] at ih
      simp only [List.append_assoc, List.singleton_append] at ih
      have e2 : decide (c :: r = c :: s) = decide (r = s) := by simp
      rw [e2]
      refine Ev.step (fun k => ?_) ih
      rw [e, if_pos rfl]
    · refine Ev.step (f := fun _ => some false) (fun k => ?_) (by simpa [h] using Ev.now false)
      rw [e, if_neg h]

theorem isame_ev (l m : List Cell) (h : l.length ≤ 1099511627776) : Ev (fun k => impl_TrmSame.f k l m) (decide (l = m)) := by
  refine Ev.bind (f := fun _ t => some t) (a := decide (l = m)) ?_ (Ev.now _)
  by_cases hl : l.length = m.length
  · refine Ev.congr (fun k => ?_) (isame_loop l m [] [] (l.length : Int) (by simp) rfl hl (by simp; omega))
    unfold slices_Equal_TrmCell.f
    rw [if_pos (by omega)]
    rfl
  · have : l ≠ m := fun e => hl (by rw [e])
    refine Ev.all (fun k => ?_)
    unfold slices_Equal_TrmCell.f
    rw [if_neg (by omega)]
    simp [this]

end Go.Proofs.Ytpgicghdpopeaaa.P
