/- Shifts: what both answer. -/
import Derived.Test.YtlmeookaanjdiaaDoorMArg
import Derived.Test.YtlmeookaanjdiaaDoorP7
import Derived.Test.YtlmeookaanjdiaaDoorP6
namespace Go.Proofs.YtlmeookaanjdiaaDoor.P
set_option linter.unusedVariables false
set_option linter.unusedSimpArgs false
open Go.RowKit Go.Proofs.YtlmeookaanjdiaaDoor.Cat Go.Proofs.YtlmeookaanjdiaaDoorW.PrintWords Go.Proofs.YtlmeookaanjdiaaDoorW.PrintLast

/-- a term with each variable so many on; none, if that is too far -/
def shiftOf (l : List Cell) (n : Int) : List Cell := if isTerm l = true ∧ 0 ≤ n ∧ n ≤ 99999 ∧ isTerm (ren (· + n) l) = true then ren (· + n) l else []

theorem ren_snoc (ρ : Int → Int) (a : List Cell) (c : Cell) : ren ρ (a ++ [c]) = ren ρ a ++ [if c.f0 = 1 then ⟨c.f0, ρ c.f1, c.f2⟩ else c] := by simp [ren]
theorem ren_len (ρ : Int → Int) (a : List Cell) : (ren ρ a).length = a.length := by simp [ren]

theorem cell_num {c : Cell} (h : cellOk c = true) : -99999 ≤ c.f1 ∧ c.f1 ≤ 99999 := by
  unfold cellOk at h
  by_cases h1 : c.f0 = 1
  · rw [if_pos h1] at h
    have := of_decide_eq_true (Bool.and_eq_true_iff.1 h).1
    omega
  rw [if_neg h1] at h
  by_cases h2 : c.f0 = 2
  · rw [if_pos h2] at h
    have := of_decide_eq_true (Bool.and_eq_true_iff.1 h).1
    omega
  rw [if_neg h2] at h
  by_cases h3 : c.f0 = 3
  · rw [if_pos h3] at h
    have := of_decide_eq_true (Bool.and_eq_true_iff.1 h).1
    omega
  rw [if_neg h3] at h
  cases h

theorem ishift_loop (n : Int) (h0 : 0 ≤ n) (h1 : n ≤ 99999) : ∀ (r a : List Cell) (m : Int), m = ((a ++ r).length : Int) → okl r → a.length + r.length ≤ 40 →
    Ev (fun k => impl_shifted.l0 k n (ren (· + n) a ++ r) m ((a.length : Nat) : Int)) (ren (· + n) (a ++ r)) := by
  intro r
  induction r with
  | nil =>
    intro a m hm ho hl
    refine Ev.step (fun k => rfl) ?_
    simp only [impl_shifted.l0]
    exact Ev.ifn (by rw [hm]; exact not_lt_app a) (Ev.pure (by simp))
  | cons c r ih =>
    intro a m hm ho hl
    have hc := cell_num (okl_cons.1 ho).1
    simp only [List.length_cons] at hl
    have e : (a ++ [c]) ++ r = a ++ c :: r := by simp
    have I := ih (a ++ [c]) m (by rw [e]; exact hm) (okl_cons.1 ho).2 (by simp; omega)
    rw [e, snoc_len, ren_snoc] at I
    have hr : rd_T35 (ren (· + n) a ++ c :: r) ((a.length : Nat) : Int) = c := by
      have := rdC (ren (· + n) a) r c
      rw [ren_len] at this
      exact this
    refine Ev.step (fun k => rfl) ?_
    simp only [impl_shifted.l0]
    refine Ev.ifp (by rw [hm]; exact lt_app a r c) (Ev.ifp (by omega) (Ev.ifp (by simp [ren_len]; omega) ?_))
    rw [hr, wnext (by omega)]
    by_cases hv : c.f0 = 1
    · rw [if_pos hv] at I
      refine Ev.ifp hv ?_
      have hs := setC (ren (· + n) a) r c ⟨c.f0, c.f1 + n, c.f2⟩
      rw [ren_len] at hs
      rw [w64 (by omega) (by omega), hs]
      simpa using I
    · rw [if_neg hv] at I
      refine Ev.ifn hv ?_
      simpa using I

theorem ishift_ev (l : List Cell) (n : Int) : Ev (fun k => impl_TrmShift.f k l n) (shiftOf l n) := by
  unfold impl_TrmShift.f
  refine Ev.bindv (iok l) ?_
  have N : ∀ b : Bool, b = true → shiftOf l n = [] → Ev (fun k => impl_TrmShift.j0 k l n b) (shiftOf l n) := by
    intro b hb h
    rw [h, hb]
    refine Ev.step (fun k => rfl) ?_
    simp only [impl_TrmShift.j0]
    exact Ev.ifp (by simp) (Ev.now _)
  by_cases h : isTerm l = true
  case neg => exact Ev.ifn h (N true rfl (by unfold shiftOf; rw [if_neg (fun e => h e.1)]))
  refine Ev.ifp h ?_
  rw [in_pure]
  refine Ev.bindv rfl ?_
  by_cases hn : 0 ≤ n ∧ n ≤ 99999
  case neg =>
    rw [decide_eq_false hn]
    exact N _ rfl (by unfold shiftOf; rw [if_neg]; rintro ⟨_, a, b, _⟩; exact hn ⟨a, b⟩)
  rw [decide_eq_true hn]
  refine Ev.step (fun k => rfl) ?_
  simp only [impl_TrmShift.j0]
  obtain ⟨h1, h2, h3, h4⟩ := isTerm_iff.1 h
  have S : Ev (fun k => impl_shifted.f k l n) (ren (· + n) l) := by
    unfold impl_shifted.f
    rw [clone_ok l (by omega)]
    refine Ev.bindv rfl ?_
    have I := ishift_loop n hn.1 hn.2 l [] (l.length : Int) (by simp) h3 (by simpa using h2)
    simpa [ren] using I
  refine Ev.ifn (by simp) (Ev.bind S (Ev.bindv (iok _) ?_))
  by_cases hr : isTerm (ren (· + n) l) = true
  · exact Ev.ifp hr (Ev.pure (by unfold shiftOf; rw [if_pos ⟨h, hn.1, hn.2, hr⟩]))
  · exact Ev.ifn hr (Ev.pure (by unfold shiftOf; rw [if_neg (fun e => hr e.2.2.2)]))

theorem shiftOf_len (l : List Cell) (n : Int) : (shiftOf l n).length ≤ 40 := by
  unfold shiftOf
  by_cases h : isTerm l = true ∧ 0 ≤ n ∧ n ≤ 99999 ∧ isTerm (ren (· + n) l) = true
  · rw [if_pos h]; exact (isTerm_iff.1 h.2.2.2).2.1
  · rw [if_neg h]; simp
end Go.Proofs.YtlmeookaanjdiaaDoor.P
