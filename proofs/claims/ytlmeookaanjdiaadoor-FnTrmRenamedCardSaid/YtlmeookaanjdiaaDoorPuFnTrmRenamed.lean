/- Two terms are one but for their variables' numbers just if TrmCanon of both is one. -/
import Derived.Test.YtlmeookaanjdiaaDoorMDraw
import Derived.Test.YtlmeookaanjdiaaDoorMRen
import Derived.Test.YtlmeookaanjdiaaDoorMCanonF
import Derived.Test.YtlmeookaanjdiaaDoorMCa
import Derived.Test.YtlmeookaanjdiaaDoorP12
import Derived.Test.YtlmeookaanjdiaaDoorP13
namespace Go.Proofs.YtlmeookaanjdiaaDoor.Pu
open Go.RowKit Go.Proofs.YtlmeookaanjdiaaDoor.Cat Go.Proofs.YtlmeookaanjdiaaDoor.P Go.Proofs.YtlmeookaanjdiaaDoorW.PrintWords
set_option linter.unusedVariables false
set_option linter.unusedSimpArgs false
theorem draw_shift {l : List Int} (h : IsCode l) : ∃ t a, Ev (fun k => spec_DrawTrmShift.f k l) (t, a) ∧ Sms 200000 t := by
  obtain ⟨b, hb, hc⟩ := code_of h
  obtain ⟨t, q, ht, q0, q1, hs⟩ := termOr_ev hc (p := 0) (by omega) (by omega) 9 (by omega)
  obtain ⟨x, hx, x0, x8, _⟩ := pick_ev hc q0 (by omega) 8 (by omega)
  have x8 := x8 (by omega)
  refine ⟨t, rd [0, 1, 8, 99999, 100000, (-1), 99996, 9223372036854775807] x, ?_, hs⟩
  unfold spec_DrawTrmShift.f
  exact Ev.bindv hb (Ev.bind ht (Ev.bindv rfl (Ev.bind hx (Ev.ifp x0 (Ev.ifp (by simpa using x8) (Ev.now _))))))
/-- variables turned about in pairs -/
def turn (v : Int) : Int := if v < 99999 then (if Int.tmod v 2 = 0 then v + 1 else v - 1) else v
theorem turn_loop (t : List Cell) (hl : t.length ≤ 40) (ho : okl t) (H : Ev (fun k => laws_FnTrmRenamed.l0 k t (ren turn t) (t.length : Int)) true) :
    ∀ (r a : List Cell), t = a ++ r → Ev (fun k => laws_FnTrmRenamed.l0 k t (ren turn a ++ r) (a.length : Int)) true := by
  intro r
  induction r with
  | nil =>
    intro a e
    have e' : t = a := by simpa using e
    rw [e'] at H
    rw [e', List.append_nil]
    exact H
  | cons c r ih =>
    intro a e
    have hlen := congrArg List.length e
    simp only [List.length_append, List.length_cons] at hlen
    have hcm : c ∈ t := by rw [e]; simp
    have I := ih (a ++ [c]) (by rw [e]; simp)
    rw [snoc_len, ren_snoc, List.append_assoc, List.singleton_append] at I
    have er : rd_T35 (ren turn a ++ c :: r) ((a.length : Nat) : Int) = c := by
      have := rdC (ren turn a) r c
      rw [ren_len] at this
      exact this
    have hset : ∀ d : Cell, (ren turn a ++ c :: r).set ((a.length : Nat) : Int).toNat d = ren turn a ++ d :: r := by
      intro d
      have := setC (ren turn a) r c d
      rw [ren_len] at this
      exact this
    have hlx : ((ren turn a ++ c :: r).length : Int) = (t.length : Int) := by rw [List.length_append, ren_len, List.length_cons, hlen]
    refine Ev.step (fun k => rfl) ?_
    simp only [laws_FnTrmRenamed.l0]
    refine Ev.ifp (by omega) (Ev.ifp (by omega) ?_)
    rw [er]
    by_cases hv : c.f0 = 1
    case neg =>
      rw [if_neg hv] at I
      refine Ev.ifn hv (Ev.step (fun k => rfl) ?_)
      simp only [laws_FnTrmRenamed.j1]
      refine Ev.ifn (by simp) ?_
      rw [wnext (by omega)]
      exact I
    rw [if_pos hv] at I
    have hn := var_num ho hcm hv
    refine Ev.ifp hv (Ev.step (fun k => rfl) ?_)
    simp only [laws_FnTrmRenamed.j1]
    by_cases hb : c.f1 < 99999
    case neg =>
      have et : turn c.f1 = c.f1 := by unfold turn; rw [if_neg hb]
      rw [et] at I
      refine Ev.ifn (by rw [decide_eq_false hb]; simp) ?_
      rw [wnext (by omega)]
      exact I
    refine Ev.ifp (decide_eq_true hb) (Ev.ifp (by omega) (Ev.ifp (by omega) ?_))
    rw [er, wnext (by omega)]
    by_cases h2 : Int.tmod c.f1 2 = 0
    · have et : turn c.f1 = c.f1 + 1 := by unfold turn; rw [if_pos hb, if_pos h2]
      rw [et] at I
      refine Ev.ifp h2 ?_
      rw [hset, w64 (by omega) (by omega)]
      exact I
    · have et : turn c.f1 = c.f1 - 1 := by unfold turn; rw [if_pos hb, if_neg h2]
      rw [et] at I
      refine Ev.ifn h2 ?_
      rw [hset, w64 (by omega) (by omega)]
      exact I

theorem turn_end (t : List Cell) (hl : t.length ≤ 40) (ho : okl t) : ∀ (m i : Nat), (frees t).length - i = m → (∀ j, j < i → (h : j < (frees t).length) → (frees t)[j] ≠ 99999) → Ev (fun k => laws_FnTrmRenamed.l1 k t (ren turn t) (frees t) (i : Int)) true := by
  have hfl : (frees t).length ≤ t.length := by
    have := freesOn_len t []
    simp only [List.length_nil, Nat.zero_add] at this
    exact this
  intro m
  induction m with
  | zero =>
    intro i hi hne
    have hno : ∀ v ∈ frees t, 0 ≤ v ∧ v ≤ 99998 := by
      intro v hv
      obtain ⟨c, hc, hv1, hv2⟩ := mem_frees.1 hv
      have hn := var_num ho hc hv1
      obtain ⟨j, hj, e⟩ := List.getElem_of_mem hv
      have := hne j (by omega) hj
      rw [e] at this
      omega
    have hinj : InjOn turn (· ∈ frees t) := by
      intro x y hx hy h
      have hx := hno x hx
      have hy := hno y hy
      have h : turn x = turn y := h
      unfold turn at h
      rw [if_pos (show x < 99999 by omega), if_pos (show y < 99999 by omega), Int.tmod_eq_emod_of_nonneg hx.1, Int.tmod_eq_emod_of_nonneg hy.1] at h
      by_cases h1 : x % 2 = 0
      · rw [if_pos h1] at h
        by_cases h2 : y % 2 = 0
        · rw [if_pos h2] at h; omega
        · rw [if_neg h2] at h; omega
      · rw [if_neg h1] at h
        by_cases h2 : y % 2 = 0
        · rw [if_pos h2] at h; omega
        · rw [if_neg h2] at h; omega
    refine Ev.step (fun k => rfl) ?_
    simp only [laws_FnTrmRenamed.l1]
    refine Ev.ifn (by omega) (Ev.bind (icanon_ev _ (by rw [ren_len]; omega)) (Ev.bind (icanon_ev t (by omega)) ?_))
    rw [canon_ren hinj]
    refine Ev.bind (caTerm_ev _ _ (by rw [canon_len]; omega)) (Ev.ifp (by simp) (Ev.bind (ifree_ev _ (by rw [ren_len]; omega)) (Ev.pure ?_)))
    rw [frees_ren hinj, List.length_map]
    exact beq_iff_eq.2 rfl
  | succ m ih =>
    intro i hi hne
    have hlt : i < (frees t).length := by omega
    have er : rd (frees t) (i : Int) = (frees t)[i] := by
      unfold rd
      simp only [Int.toNat_natCast, List.getD_eq_getElem?_getD, List.getElem?_eq_getElem hlt, Option.getD_some]
    refine Ev.step (fun k => rfl) ?_
    simp only [laws_FnTrmRenamed.l1]
    refine Ev.ifp (by omega) (Ev.ifp (by omega) ?_)
    rw [er]
    by_cases h9 : (frees t)[i] = 99999
    · exact Ev.ifp h9 (Ev.bindv caOk_ok (Ev.now _))
    · refine Ev.ifn h9 ?_
      rw [wnext (by omega)]
      refine ih (i + 1) (by omega) (fun j hj h => ?_)
      by_cases e : j = i
      · subst e; exact h9
      · exact hne j (by omega) h

theorem FnTrmRenamed (l : List Int) (h : IsCode l) : ∃ k, laws_FnTrmRenamed.f k l = some true := by
  refine Ev.rounds ?_
  unfold laws_FnTrmRenamed.f
  by_cases hb : (l.length : Int) > 1048576
  · exact Ev.ifp hb (Ev.now _)
  refine Ev.ifn hb ?_
  obtain ⟨t, n, hd, hs⟩ := draw_shift h
  have hl := hs.1
  refine Ev.bind hd (Ev.bind (sok_ev t) ?_)
  by_cases ht : isTerm t = true
  case neg =>
    refine Ev.ifn ht (Ev.bind (ishift_ev t n) ?_)
    have e : shiftOf t n = [] := by unfold shiftOf; rw [if_neg (fun e => ht e.1)]
    rw [e]
    exact Ev.ifp (by simp) (Ev.bindv caOk_ok (Ev.now _))
  obtain ⟨h1, h40, ho, hf⟩ := isTerm_iff.1 ht
  refine Ev.ifp ht (Ev.bindv rfl (Ev.ifp (by simp only [List.length_nil]; omega) ?_))
  refine turn_loop t h40 ho ?_ t [] rfl
  refine Ev.step (fun k => rfl) ?_
  simp only [laws_FnTrmRenamed.l0]
  refine Ev.ifn (by rw [ren_len]; omega) (Ev.bind (ifree_ev t (by omega)) ?_)
  exact turn_end t h40 ho _ 0 rfl (fun j hj => by omega)
end Go.Proofs.YtlmeookaanjdiaaDoor.Pu
