/- What the laws' own helpers do to whole numbers: equality, marks. -/
import Derived.Test.YtpgicghdpopeaaaP6
import Derived.Test.YtpgicghdpopeaaaP7
import Derived.Test.YtpgicghdpopeaaaP7
import Derived.Test.YtpgicghdpopeaaaMFree
namespace Go.Proofs.Ytpgicghdpopeaaa.P
set_option linter.unusedVariables false
set_option linter.unusedSimpArgs false
open Go.RowKit Go.Proofs.Ytpgicghdpopeaaa.Cat Go.Proofs.YtpgicghdpopeaaaW.PrintWords Go.Proofs.YtpgicghdpopeaaaW.PrintLast

theorem eqi_loop : ∀ (r s a b : List Int), a.length = b.length → r.length = s.length → a.length + r.length ≤ 9223372036854775806 →
    Ev (fun k => laws_eqIntS.l0 k (a ++ r) (b ++ s) ((a.length : Nat) : Int)) (decide (r = s))
  | [], s, a, b, hab, hrs, hl => by
    have : s = [] := by cases s with
      | nil => rfl
      | cons => simp at hrs
    subst this
    refine Ev.step (f := fun _ => some true) (fun k => ?_) (by simpa using Ev.now true)
    simp only [laws_eqIntS.l0]
    rw [if_neg (not_lt_app a)]
  | c :: r, [], a, b, hab, hrs, hl => by simp at hrs
  | c :: r, d :: s, a, b, hab, hrs, hl => by
    have e : ∀ k, laws_eqIntS.l0 (k + 1) (a ++ c :: r) (b ++ d :: s) ((a.length : Nat) : Int) = if c = d then laws_eqIntS.l0 k (a ++ c :: r) (b ++ d :: s) ((a.length + 1 : Nat) : Int) else some false := by
      intro k
      simp only [laws_eqIntS.l0]
      rw [if_pos (lt_app a r c), if_pos (by omega), if_pos (by rw [hab]; exact lt_app b s d), rdI]
      conv => lhs; rw [show ((a.length : Nat) : Int) = ((b.length : Nat) : Int) by rw [hab]]
      rw [rdI, wnext (by simp at hl; omega), hab]
    by_cases h : c = d
    · subst h
      have ih := eqi_loop r s (a ++ [c]) (b ++ [c]) (by simp [hab]) (by simpa using hrs) (by simp at hl ⊢; omega)
      rw [snoc_len] at ih
      simp only [List.append_assoc, List.singleton_append] at ih
      have e2 : decide (c :: r = c :: s) = decide (r = s) := by simp
      rw [e2]
      refine Ev.step (fun k => ?_) ih
      rw [e, if_pos rfl]
    · refine Ev.step (f := fun _ => some false) (fun k => ?_) (by simpa [h] using Ev.now false)
      rw [e, if_neg h]

theorem eqi_ev (l m : List Int) (h : l.length ≤ 1048576) : Ev (fun k => laws_eqIntS.f k l m) (decide (l = m)) := by
  by_cases hl : l.length = m.length
  · refine Ev.congr (fun k => ?_) (eqi_loop l m [] [] rfl hl (by simp; omega))
    unfold laws_eqIntS.f
    rw [if_pos (by omega)]
    rfl
  · have : l ≠ m := fun e => hl (by rw [e])
    refine Ev.all (fun k => ?_)
    unfold laws_eqIntS.f
    rw [if_neg (by omega)]
    simp [this]

def markedi (m : Int) : Nat → List Int
  | 0 => []
  | n + 1 => m :: markedi (m + 1) n
theorem markedi_len (m : Int) (n : Nat) : (markedi m n).length = n := by
  induction n generalizing m with
  | zero => rfl
  | succ n ih => simp [markedi, ih]

theorem marki_loop : ∀ (r a : List Int) (m : Int), 0 ≤ m → m + r.length ≤ 900000000 → a.length + r.length ≤ 9223372036854775806 →
    Ev (fun k => laws_markIntS.l0 k (a ++ r) m ((a.length : Nat) : Int)) (m + r.length, a ++ markedi m r.length)
  | [], a, m, h0, h1, hl => by
    refine Ev.step (f := fun _ => some (m + (([] : List Int).length : Int), a ++ markedi m 0)) (fun k => ?_) (Ev.now _)
    simp only [laws_markIntS.l0]
    rw [if_neg (not_lt_app a)]
    simp [markedi]
  | c :: r, a, m, h0, h1, hl => by
    have hr : ((c :: r).length : Int) = r.length + 1 := by simp
    rw [hr] at h1
    have ih := marki_loop r (a ++ [m]) (m + 1) (by omega) (by omega) (by simp at hl ⊢; omega)
    rw [snoc_len] at ih
    simp only [List.append_assoc, List.singleton_append] at ih
    rw [show m + 1 + (r.length : Int) = m + ((c :: r).length : Int) by rw [hr]; omega] at ih
    refine Ev.step (fun k => ?_) ih
    simp only [laws_markIntS.l0]
    rw [if_pos (lt_app a r c), if_pos (by omega), w64 (x := m + 1) (by omega) (by omega), wnext (by simp at hl; omega), setC]

theorem marki_ev (l : List Int) (m : Int) (h0 : 0 ≤ m) (h : m + l.length ≤ 900000000) : Ev (fun k => laws_markIntS.f k l m) (m + l.length, markedi m l.length) := by
  refine Ev.congr (fun k => ?_) (marki_loop l [] m h0 h (by simp; omega))
  rfl

theorem heldi_loop : ∀ (n : Nat) (a : List Int) (m : Int), 0 ≤ m → m + n ≤ 900000000 → a.length + n ≤ 9223372036854775806 →
    Ev (fun k => laws_heldIntS.l0 k (a ++ markedi m n) m ((a.length : Nat) : Int)) (m + n)
  | 0, a, m, h0, h1, hl => by
    rw [show markedi m 0 = [] from rfl]
    refine Ev.step (f := fun _ => some (m + ((0 : Nat) : Int))) (fun k => ?_) (Ev.now _)
    simp only [laws_heldIntS.l0]
    rw [if_neg (not_lt_app a)]
    simp
  | n + 1, a, m, h0, h1, hl => by
    rw [show markedi m (n + 1) = m :: markedi (m + 1) n from rfl]
    have ih := heldi_loop n (a ++ [m]) (m + 1) (by omega) (by omega) (by simp; omega)
    rw [snoc_len] at ih
    simp only [List.append_assoc, List.singleton_append] at ih
    rw [show (m + 1 + (n : Int)) = m + ((n + 1 : Nat) : Int) by omega] at ih
    refine Ev.step (fun k => ?_) ih
    simp only [laws_heldIntS.l0]
    rw [if_pos (lt_app a _ _), if_pos (by omega), rdI, if_pos rfl, w64 (x := m + 1) (by omega) (by omega), wnext (by omega)]

theorem heldi_ev (m : Int) (n : Nat) (h0 : 0 ≤ m) (h : m + n ≤ 900000000) : Ev (fun k => laws_heldIntS.f k (markedi m n) m) (m + n) := by
  refine Ev.congr (fun k => ?_) (heldi_loop n [] m h0 h (by simp; omega))
  rfl

theorem room_of {l : List Cell} (h : l.length ≤ maxLen ∧ ∀ x ∈ l, CellIn x.f0 x.f1 x.f2) : Room l := by
  unfold maxLen at h
  exact ⟨h.1, fun c hc => by have := (h.2 c hc).2.2; unfold maxLen at this; exact this⟩

end Go.Proofs.Ytpgicghdpopeaaa.P
