/- What is made has what it was made of. -/
import Derived.Test.YtlmeookaanjdiaaDoorMDraw
import Derived.Test.YtlmeookaanjdiaaDoorMArg
import Derived.Test.YtlmeookaanjdiaaDoorMMake
import Derived.Test.YtlmeookaanjdiaaDoorMCa
import Derived.Test.YtlmeookaanjdiaaDoorP12
import Derived.Test.YtlmeookaanjdiaaDoorP13
namespace Go.Proofs.YtlmeookaanjdiaaDoor.Pu
open Go.RowKit Go.Proofs.YtlmeookaanjdiaaDoor.Cat Go.Proofs.YtlmeookaanjdiaaDoor.P Go.Proofs.YtlmeookaanjdiaaDoorW.PrintWords
set_option linter.unusedVariables false
set_option linter.unusedSimpArgs false
theorem draw_loop {b : List Int} (hb : Code b) : ∀ (n : Nat) (acc : List (List Cell)) (p : Int), acc.length + n ≤ 4 → 0 ≤ p → p ≤ 900000 + 300 * acc.length →
    ∃ s gs, Ev (fun k => spec_DrawTrmMake.l0 k acc (n : Int) b p) (s, gs) ∧ gs.length ≤ 4 := by
  intro n
  induction n with
  | zero =>
    intro acc p hl h0 h1
    obtain ⟨i, hi, i0, i8, _⟩ := pick_ev hb h0 (by omega) 8 (by omega)
    have i8 := i8 (by omega)
    have hm := rd_mem [0, 0, 0, 1, 2, 3, 4, 5] i i0 (by simpa using i8)
    simp only [List.mem_cons, List.not_mem_nil, or_false] at hm
    refine ⟨rdOf ByteArray.empty [(⟨#[102]⟩ : ByteArray), ⟨#[103]⟩, ⟨#[]⟩, ⟨#[65]⟩, ⟨#[97, 98, 99, 100, 101, 102, 103, 104]⟩, ⟨#[97, 98, 99, 100, 101, 102, 103, 104, 105]⟩] (rd [0, 0, 0, 1, 2, 3, 4, 5] i), acc, Ev.step (fun k => rfl) ?_, by omega⟩
    simp only [spec_DrawTrmMake.l0]
    exact Ev.ifn (by omega) (Ev.bindv rfl (Ev.bindv rfl (Ev.bind hi (Ev.ifp i0 (Ev.ifp (by simpa using i8) (Ev.ifp (by show 0 ≤ rd [0, 0, 0, 1, 2, 3, 4, 5] i; omega) (Ev.ifp (by show rd [0, 0, 0, 1, 2, 3, 4, 5] i < 6; omega) (Ev.now _))))))))
  | succ n ih =>
    intro acc p hl h0 h1
    obtain ⟨t, q, ht, q0, q1, hs⟩ := termOr_ev hb h0 (by omega) 14 (by omega)
    obtain ⟨s, gs, hg, hl'⟩ := ih (acc ++ [t]) q (by simp; omega) q0 (by simp; omega)
    refine ⟨s, gs, Ev.step (fun k => rfl) ?_, hl'⟩
    simp only [spec_DrawTrmMake.l0]
    refine Ev.ifp (by omega) (Ev.bind ht (Ev.ifp (by omega) ?_))
    rw [show wrap64 (((n + 1 : Nat) : Int) - 1) = (n : Int) by rw [w64 (by omega) (by omega)]; omega]
    exact hg
theorem draw_make {l : List Int} (h : IsCode l) : ∃ s gs, Ev (fun k => spec_DrawTrmMake.f k l) (s, gs) ∧ gs.length ≤ 4 := by
  obtain ⟨b, hb, hc⟩ := code_of h
  obtain ⟨x, hx, x0, x5, _⟩ := pick_ev hc (p := 0) (by omega) (by omega) 5 (by omega)
  have x5 := x5 (by omega)
  obtain ⟨m, rfl⟩ := Int.eq_ofNat_of_zero_le x0
  obtain ⟨s, gs, hg, hl⟩ := draw_loop hc m [] (0 + 1) (by simp; omega) (by omega) (by simp)
  refine ⟨s, gs, ?_, hl⟩
  unfold spec_DrawTrmMake.f
  exact Ev.bindv hb (Ev.bind hx hg)
theorem made_args {s : ByteArray} {gs : List (List Cell)} (hg : gs.all isTerm = true) : argsOf (fnc s gs) = gs := by
  unfold argsOf fnc
  simp only [List.headD_cons, List.tail_cons]
  have e : ar (⟨3, (gs.length : Int), s⟩ : Cell) = gs.length := by unfold ar; simp
  rw [e]
  exact cut_flatten (fun x hx => (isTerm_iff.1 (List.all_eq_true.1 hg x hx)).2.2.2)
theorem make_loop {s : ByteArray} {gs : List (List Cell)} (hg : gs.all isTerm = true) (ht : isTerm (fnc s gs) = true) (hl : gs.length ≤ 4) : ∀ (r a : List (List Cell)), gs = a ++ r →
    Ev (fun k => laws_FnTrmMake.l0 k s gs (fnc s gs) (a.length : Int)) true := by
  have ha := made_args (s := s) hg
  intro r
  induction r with
  | nil =>
    intro a e
    have e' : gs = a := by simpa using e
    refine Ev.step (fun k => rfl) ?_
    simp only [laws_FnTrmMake.l0]
    refine Ev.ifn (by rw [e']; omega) (Ev.bindv (iok _) (Ev.ifp ht (Ev.ifp (by unfold fnc; rw [List.length_cons]; omega) (Ev.ifp rfl (Ev.pure ?_)))))
    exact beq_iff_eq.2 rfl
  | cons u r ih =>
    intro a e
    have hlen := congrArg List.length e
    simp only [List.length_append, List.length_cons] at hlen
    have hul := (arg_small ht (by rw [ha, e]; simp : u ∈ argsOf (fnc s gs))).1
    have hat : argOf (fnc s gs) (a.length : Int) = u := by
      unfold argOf
      rw [ha, if_pos ⟨ht, by omega, by omega⟩, e]
      simp [List.getD]
    refine Ev.step (fun k => rfl) ?_
    simp only [laws_FnTrmMake.l0]
    refine Ev.ifp (by omega) (Ev.bind (iarg_ev _ _) (Ev.ifp (by omega) ?_))
    rw [hat, show rd_L3 gs (a.length : Int) = u by rw [e]; exact rdL a r u]
    refine Ev.bind (caTerm_ev u u (by omega)) (Ev.ifp (by simp) ?_)
    rw [wnext (by omega)]
    have I := ih (a ++ [u]) (by rw [e]; simp)
    rw [show ((a ++ [u]).length : Int) = ((a.length + 1 : Nat) : Int) by simp] at I
    exact I
theorem FnTrmMake (l : List Int) (h : IsCode l) : ∃ k, laws_FnTrmMake.f k l = some true := by
  refine Ev.rounds ?_
  unfold laws_FnTrmMake.f
  by_cases hb : (l.length : Int) > 1048576
  · exact Ev.ifp hb (Ev.now _)
  refine Ev.ifn hb ?_
  obtain ⟨s, gs, hd, hl⟩ := draw_make h
  have hml := makeOf_len s gs
  refine Ev.bind hd (Ev.bind (imake_ev s gs (by omega)) (Ev.bind (smake_ev s gs (by omega)) (Ev.bind (caTerm_ev _ _ (by omega)) (Ev.ifp (by simp) ?_))))
  by_cases hm : gs.all isTerm = true ∧ isTerm (fnc s gs) = true
  · have e : makeOf s gs = fnc s gs := by unfold makeOf; rw [if_pos hm]
    rw [e]
    refine Ev.ifn (by unfold fnc; rw [List.length_cons]; omega) ?_
    exact make_loop hm.1 hm.2 hl gs [] rfl
  · have e : makeOf s gs = [] := by unfold makeOf; rw [if_neg hm]
    rw [e]
    exact Ev.ifp (by simp) (Ev.bindv caOk_ok (Ev.now _))
end Go.Proofs.YtlmeookaanjdiaaDoor.Pu
