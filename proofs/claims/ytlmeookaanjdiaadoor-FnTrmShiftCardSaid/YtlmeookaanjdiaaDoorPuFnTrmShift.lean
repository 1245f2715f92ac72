/- Variables go on together. -/
import Derived.Test.YtlmeookaanjdiaaDoorMDraw
import Derived.Test.YtlmeookaanjdiaaDoorMRen
import Derived.Test.YtlmeookaanjdiaaDoorMCa
import Derived.Test.YtlmeookaanjdiaaDoorP12
import Derived.Test.YtlmeookaanjdiaaDoorP13
namespace Go.Proofs.YtlmeookaanjdiaaDoor.Pu
open Go.RowKit Go.Proofs.YtlmeookaanjdiaaDoor.Cat Go.Proofs.YtlmeookaanjdiaaDoor.P Go.Proofs.YtlmeookaanjdiaaDoorW.PrintWords
set_option linter.unusedVariables false
set_option linter.unusedSimpArgs false
theorem draw_shift {l : List Int} (h : IsCode l) : ∃ t a, Ev (fun k => spec_DrawTrmShift.f k l) (t, a) ∧ Sms 200000 t := by
  obtain ⟨b, hb, hc⟩ := code_of h
  obtain ⟨t, q, ht, q0, q1, hs⟩ := termOr_ev hc (p := 0) (by omega) (by omega) 9 (by omega)
  obtain ⟨x, hx, x0, x8, _⟩ := pick_ev hc q0 (by omega) 8 (by omega)
  have x8 := x8 (by omega)
  refine ⟨t, rd [0, 1, 8, 99999, 100000, (-1), 99996, 9223372036854775807] x, ?_, hs⟩
  unfold spec_DrawTrmShift.f
  exact Ev.bindv hb (Ev.bind ht (Ev.bindv rfl (Ev.bind hx (Ev.ifp x0 (Ev.ifp (by simpa using x8) (Ev.now _))))))

theorem shift_loop (n : Int) (h0 : 0 ≤ n) (h1 : n ≤ 99999) (t : List Cell) (ho : okl t) (hl : t.length ≤ 40) (H : Ev (fun k => laws_FnTrmShift.l0 k t n (ren (· + n) t) (t.length : Int)) true) :
    ∀ (r a : List Cell), t = a ++ r → Ev (fun k => laws_FnTrmShift.l0 k t n (ren (· + n) t) (a.length : Int)) true := by
  intro r
  induction r with
  | nil =>
    intro a e
    have e' : t = a := by simpa using e
    rw [e'] at H
    rw [e']
    exact H
  | cons c r ih =>
    intro a e
    have hlen := congrArg List.length e
    simp only [List.length_append, List.length_cons] at hlen
    have hc := ho c (by rw [e]; simp)
    have hn := cell_num hc
    have I := ih (a ++ [c]) (by rw [e]; simp)
    rw [snoc_len] at I
    have er : rd_T35 t ((a.length : Nat) : Int) = c := by rw [e]; exact rdC a r c
    have ex : rd_T35 (ren (· + n) t) ((a.length : Nat) : Int) = (if c.f0 = 1 then ⟨c.f0, c.f1 + n, c.f2⟩ else c) := by
      have h2 := rdC (ren (· + n) a) (ren (· + n) r) (if c.f0 = 1 then ⟨c.f0, c.f1 + n, c.f2⟩ else c)
      rw [ren_len] at h2
      rw [e, show ren (· + n) (a ++ c :: r) = ren (· + n) a ++ (if c.f0 = 1 then ⟨c.f0, c.f1 + n, c.f2⟩ else c) :: ren (· + n) r by unfold ren; simp]
      exact h2
    refine Ev.step (fun k => rfl) ?_
    simp only [laws_FnTrmShift.l0]
    refine Ev.ifp (by omega) (Ev.ifp (by omega) (Ev.ifp (by rw [ren_len]; omega) ?_))
    rw [er, ex]
    by_cases hv : c.f0 = 1
    · rw [if_pos hv]
      refine Ev.ifp hv (Ev.step (fun k => rfl) ?_)
      simp only [laws_FnTrmShift.j1]
      rw [er, wnext (by omega), w64 (x := c.f1 + n - n) (by omega) (by omega), show c.f1 + n - n = c.f1 by omega]
      exact Ev.ifp (by omega) (Ev.ifp (by omega) (Ev.ifn (by simp) I))
    · rw [if_neg hv]
      refine Ev.ifn hv (Ev.step (fun k => rfl) ?_)
      simp only [laws_FnTrmShift.j1]
      rw [er, wnext (by omega)]
      exact Ev.ifp (by omega) (Ev.ifp (by omega) (Ev.ifn (by simp) I))

theorem shift_end (n : Int) (t : List Cell) (ht : isTerm t = true) : Ev (fun k => laws_FnTrmShift.l0 k t n (ren (· + n) t) (t.length : Int)) true := by
  refine Ev.step (fun k => rfl) ?_
  simp only [laws_FnTrmShift.l0]
  have h2 := shiftOf_len (shiftOf t 1) 2
  refine Ev.ifn (by omega) (Ev.bind (ishift_ev t 1) (Ev.bind (ishift_ev _ 2) ?_))
  by_cases h : isTerm (shiftOf t 1) = true ∧ 0 ≤ (2 : Int) ∧ (2 : Int) ≤ 99999 ∧ isTerm (ren (· + 2) (shiftOf t 1)) = true
  · have e2 : shiftOf (shiftOf t 1) 2 = ren (· + 2) (shiftOf t 1) := shift_yes h
    have e1 : shiftOf t 1 = ren (· + 1) t := by
      by_cases h' : isTerm t = true ∧ 0 ≤ (1 : Int) ∧ (1 : Int) ≤ 99999 ∧ isTerm (ren (· + 1) t) = true
      · unfold shiftOf; rw [if_pos h']
      · exfalso
        have : shiftOf t 1 = [] := by unfold shiftOf; rw [if_neg h']
        rw [this] at h
        exact absurd h.1 (by decide)
    have e3 : ren (· + 2) (shiftOf t 1) = ren (· + 3) t := by
      rw [e1, ren_ren]
      rfl
    rw [e2, e3]
    rw [e3] at h
    have e4 : shiftOf t 3 = ren (· + 3) t := by unfold shiftOf; rw [if_pos ⟨ht, by omega, by omega, h.2.2.2⟩]
    have h1 := (isTerm_iff.1 h.2.2.2).1
    have h40 := (isTerm_iff.1 h.2.2.2).2.1
    refine Ev.ifn (by omega) (Ev.bind (ishift_ev t 3) ?_)
    rw [e4]
    refine Ev.bind (caTerm_ev _ _ (by omega)) (Ev.pure (by simp))
  · have e2 : shiftOf (shiftOf t 1) 2 = [] := shift_no h
    rw [e2]
    exact Ev.ifp (by simp) (Ev.now _)

theorem FnTrmShift (l : List Int) (h : IsCode l) : ∃ k, laws_FnTrmShift.f k l = some true := by
  refine Ev.rounds ?_
  unfold laws_FnTrmShift.f
  by_cases hb : (l.length : Int) > 1048576
  · exact Ev.ifp hb (Ev.now _)
  refine Ev.ifn hb ?_
  obtain ⟨t, n, hd, hs⟩ := draw_shift h
  have hsl := shiftOf_len t n
  refine Ev.bind hd (Ev.bind (ishift_ev t n) (Ev.bind (sshift_ev t n) (Ev.bind (caTerm_ev _ _ (by omega)) (Ev.ifp (by simp) (Ev.bind (sok_ev t) ?_)))))
  by_cases ht : isTerm t = true
  case neg =>
    refine Ev.ifn ht ?_
    have e : shiftOf t n = [] := by unfold shiftOf; rw [if_neg (fun e => ht e.1)]
    rw [e]
    exact Ev.ifp (by simp) (Ev.bindv caOk_ok (Ev.now _))
  have h40 := (isTerm_iff.1 ht).2.1
  have e0 : shiftOf t 0 = t := by unfold shiftOf; rw [ren_zero, if_pos ⟨ht, by omega, by omega, ht⟩]
  refine Ev.ifp ht (Ev.bind (ishift_ev t 0) ?_)
  rw [e0]
  refine Ev.bind (caTerm_ev _ _ (by omega)) (Ev.ifp (by simp) ?_)
  by_cases hn : isTerm t = true ∧ 0 ≤ n ∧ n ≤ 99999 ∧ isTerm (ren (· + n) t) = true
  · have e : shiftOf t n = ren (· + n) t := by unfold shiftOf; rw [if_pos hn]
    have h1 := (isTerm_iff.1 hn.2.2.2).1
    rw [e]
    refine Ev.ifn (by omega) ?_
    exact shift_loop n hn.2.1 hn.2.2.1 t (isTerm_iff.1 ht).2.2.1 h40 (shift_end n t ht) t [] rfl
  · have e : shiftOf t n = [] := by unfold shiftOf; rw [if_neg hn]
    rw [e]
    exact Ev.ifp (by simp) (Ev.bindv caOk_ok (Ev.now _))
end Go.Proofs.YtlmeookaanjdiaaDoor.Pu
