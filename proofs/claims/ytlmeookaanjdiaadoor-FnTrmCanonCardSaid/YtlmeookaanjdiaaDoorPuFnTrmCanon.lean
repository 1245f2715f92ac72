/- How variables are numbered makes no difference. -/
import Derived.Test.YtlmeookaanjdiaaDoorMDraw
import Derived.Test.YtlmeookaanjdiaaDoorMRen
import Derived.Test.YtlmeookaanjdiaaDoorMCanonF
import Derived.Test.YtlmeookaanjdiaaDoorMCa
import Derived.Test.YtlmeookaanjdiaaDoorP13
import Derived.Test.YtlmeookaanjdiaaDoorP13
import Derived.Test.YtlmeookaanjdiaaDoorP14
namespace Go.Proofs.YtlmeookaanjdiaaDoor.Pu
open Go.RowKit Go.Proofs.YtlmeookaanjdiaaDoor.Cat Go.Proofs.YtlmeookaanjdiaaDoor.P Go.Proofs.YtlmeookaanjdiaaDoorW.PrintWords
set_option linter.unusedVariables false
set_option linter.unusedSimpArgs false
theorem draw_shift {l : List Int} (h : IsCode l) : ∃ t a, Ev (fun k => spec_DrawTrmShift.f k l) (t, a) ∧ Sms 200000 t := by
  obtain ⟨b, hb, hc⟩ := code_of h
  obtain ⟨t, q, ht, q0, q1, hs⟩ := termOr_ev hc (p := 0) (by omega) (by omega) 9 (by omega)
  obtain ⟨x, hx, x0, x8, _⟩ := pick_ev hc q0 (by omega) 8 (by omega)
  have x8 := x8 (by omega)
  refine ⟨t, rd [0, 1, 8, 99999, 100000, (-1), 99996, 9223372036854775807] x, ?_, hs⟩
  unfold spec_DrawTrmShift.f
  exact Ev.bindv hb (Ev.bind ht (Ev.bindv rfl (Ev.bind hx (Ev.ifp x0 (Ev.ifp (by simpa using x8) (Ev.now _))))))
theorem draw_canon {l : List Int} (h : IsCode l) : ∃ t, Ev (fun k => spec_DrawTrmCanon.f k l) t ∧ Sms 200000 t := by
  obtain ⟨b, hb, hc⟩ := code_of h
  obtain ⟨t, q, ht, _, _, hs⟩ := termOr_ev hc (p := 0) (by omega) (by omega) 9 (by omega)
  refine ⟨t, ?_, hs⟩
  unfold spec_DrawTrmCanon.f
  exact Ev.bindv hb (Ev.bind ht (Ev.now _))

theorem canon_end (t : List Cell) (n : Int) (hl : t.length ≤ 41) : ∀ (m i : Nat), (frees (canon t)).length - i = m → Ev (fun k => laws_FnTrmCanon.l0 k t n (canon t) (frees (canon t)) (i : Int)) true := by
  have hfl : (frees t).length ≤ t.length := by
    have := freesOn_len t []
    simp only [List.length_nil, Nat.zero_add] at this
    exact this
  have hfc : (frees (canon t)).length = (frees t).length := by rw [frees_canon, List.length_map]
  intro m
  induction m with
  | zero =>
    intro i hi
    refine Ev.step (fun k => rfl) ?_
    simp only [laws_FnTrmCanon.l0]
    refine Ev.ifn (by omega) (Ev.bind (sok_ev t) ?_)
    by_cases ht : isTerm t = true
    case neg => exact Ev.ifn ht (Ev.bindv caOk_ok (Ev.now _))
    refine Ev.ifp ht (Ev.bind (ishift_ev t n) (Ev.bindv (iok _) (Ev.ifp (term_canon ht) ?_)))
    have E : Ev (fun k => (impl_TrmFree.f k t).bind fun t801 => (some (((frees (canon t)).length : Int) == (t801.length : Int)))) true := by
      refine Ev.bind (ifree_ev t (by omega)) (Ev.pure ?_)
      rw [hfc]; exact beq_iff_eq.2 rfl
    by_cases hn : isTerm t = true ∧ 0 ≤ n ∧ n ≤ 99999 ∧ isTerm (ren (· + n) t) = true
    · have e : shiftOf t n = ren (· + n) t := by unfold shiftOf; rw [if_pos hn]
      have h1 := (isTerm_iff.1 hn.2.2.2).1
      rw [e]
      refine Ev.ifn (by omega) (Ev.bind (icanon_ev _ (by rw [ren_len]; omega)) ?_)
      rw [canon_ren (add_inj n _)]
      exact Ev.bind (caTerm_ev _ _ (by rw [canon_len]; omega)) (Ev.ifp (by simp) E)
    · have e : shiftOf t n = [] := by unfold shiftOf; rw [if_neg hn]
      rw [e]
      exact Ev.ifp (by simp) E
  | succ m ih =>
    intro i hi
    refine Ev.step (fun k => rfl) ?_
    simp only [laws_FnTrmCanon.l0]
    refine Ev.ifp (by omega) (Ev.ifp (by omega) (Ev.ifp (frees_canon_at t i (by omega)) ?_))
    rw [wnext (by omega)]
    exact ih (i + 1) (by omega)

theorem FnTrmCanon (l : List Int) (h : IsCode l) (l' : List Int) (h' : IsCode l') : ∃ k, laws_FnTrmCanon.f k l l' = some true := by
  refine Ev.rounds ?_
  have T : ∀ b : Bool, b = true → Ev (fun k => laws_FnTrmCanon.j0 k l l' b) true := by
    intro b hb
    refine Ev.step (fun k => rfl) ?_
    simp only [laws_FnTrmCanon.j0]
    exact Ev.ifp hb (Ev.now _)
  unfold laws_FnTrmCanon.f
  by_cases hb : (l.length : Int) > 1048576
  · exact Ev.ifp hb (T true rfl)
  refine Ev.ifn hb ?_
  by_cases hb' : (l'.length : Int) > 1048576
  · exact T _ (decide_eq_true hb')
  rw [decide_eq_false hb']
  obtain ⟨t, ht, hs⟩ := draw_canon h
  obtain ⟨t', n, ht', hs'⟩ := draw_shift h'
  have hl := hs.1
  refine Ev.step (fun k => rfl) ?_
  simp only [laws_FnTrmCanon.j0]
  refine Ev.ifn (by simp) (Ev.bind ht (Ev.bind ht' (Ev.bind (icanon_ev t (by omega)) (Ev.bind (scanon_ev t (by omega)) (Ev.bind (caTerm_ev _ _ (by rw [canon_len]; omega)) (Ev.ifp (by simp) (Ev.bind (icanon_ev _ (by rw [canon_len]; omega)) ?_)))))))
  rw [canon_canon]
  refine Ev.bind (caTerm_ev _ _ (by rw [canon_len]; omega)) (Ev.ifp (by simp) ?_)
  rw [canon_len, show ((t.length : Int) != (t.length : Int)) = false from bne_eq_false_iff_eq.2 rfl]
  refine Ev.step (fun k => rfl) ?_
  simp only [laws_FnTrmCanon.j1]
  refine Ev.ifn (by simp) (Ev.bind (ifree_ev _ (by rw [canon_len]; omega)) ?_)
  exact canon_end t n (by omega) _ 0 rfl
end Go.Proofs.YtlmeookaanjdiaaDoor.Pu
