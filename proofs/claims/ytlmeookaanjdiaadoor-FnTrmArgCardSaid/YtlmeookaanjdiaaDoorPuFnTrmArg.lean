/- A term is its name with its arguments. -/
import Derived.Test.YtlmeookaanjdiaaDoorMDraw
import Derived.Test.YtlmeookaanjdiaaDoorMArg
import Derived.Test.YtlmeookaanjdiaaDoorMMake
import Derived.Test.YtlmeookaanjdiaaDoorMCa
import Derived.Test.YtlmeookaanjdiaaDoorP13
import Derived.Test.YtlmeookaanjdiaaDoorP14
namespace Go.Proofs.YtlmeookaanjdiaaDoor.Pu
open Go.RowKit Go.Proofs.YtlmeookaanjdiaaDoor.Cat Go.Proofs.YtlmeookaanjdiaaDoor.P Go.Proofs.YtlmeookaanjdiaaDoorW.PrintWords
set_option linter.unusedVariables false
set_option linter.unusedSimpArgs false
theorem draw_arg {l : List Int} (h : IsCode l) : ∃ t a, Ev (fun k => spec_DrawTrmArg.f k l) (t, a) ∧ Sms 200000 t := by
  obtain ⟨b, hb, hc⟩ := code_of h
  obtain ⟨t, q, ht, q0, q1, hs⟩ := termOr_ev hc (p := 0) (by omega) (by omega) 9 (by omega)
  obtain ⟨x, hx, x0, x5, _⟩ := pick_ev hc q0 (by omega) 5 (by omega)
  refine ⟨t, wrap64 (x - 1), ?_, hs⟩
  unfold spec_DrawTrmArg.f
  exact Ev.bindv hb (Ev.bind ht (Ev.bind hx (Ev.now _)))
theorem make_args {t : List Cell} (h : isTerm t = true) {c : Cell} {r : List Cell} (e : t = c :: r) (h3 : c.f0 = 3) : makeOf c.f2 (argsOf t) = t ∧ c.f1 = ((argsOf t).length : Int) := by
  obtain ⟨d, gs, e', ea, hn, hf, ho, hl⟩ := args_spec h
  rw [e] at e'
  obtain ⟨rfl, hr⟩ := List.cons.inj e'
  have hc : cellOk c = true := ho c (by rw [e]; simp)
  have h1 := (cellOk_ar hc).1
  rw [if_pos h3] at h1
  have h1 := Option.some.inj h1
  have h4 : c.f1 = ((argsOf t).length : Int) := by rw [ea, hn]; exact h1
  have hfn : fnc c.f2 (argsOf t) = t := by
    unfold fnc
    rw [← h4, ea, ← hr, e]
    congr 1
    cases c
    simp only at h3
    rw [h3]
  refine ⟨?_, h4⟩
  unfold makeOf
  rw [hfn, if_pos ⟨List.all_eq_true.2 (fun x hx => arg_term h hx), h⟩]
theorem arg_at {t : List Cell} (h : isTerm t = true) {a r : List (List Cell)} {u : List Cell} (e : argsOf t = a ++ u :: r) : argOf t (a.length : Int) = u := by
  unfold argOf
  rw [if_pos ⟨h, by omega, by rw [e]; simp; omega⟩, e]
  simp [List.getD]
theorem arg_out {t : List Cell} (k : Int) (hk : k < 0 ∨ ((argsOf t).length : Int) ≤ k) : argOf t k = [] := by
  unfold argOf
  rw [if_neg]
  rintro ⟨_, a, b⟩
  omega
theorem arg_none {t : List Cell} (k : Int) (h : isTerm t = true → ∀ c r, t = c :: r → c.f0 ≠ 3) : argOf t k = [] := by
  unfold argOf
  rw [if_neg]
  rintro ⟨ht, a, b⟩
  obtain ⟨c, gs, e, ea, hn, hf, ho, hl⟩ := args_spec ht
  have : ar c = 0 := by
    unfold ar
    rw [if_neg (h ht c _ e)]
  rw [ea, hn, this] at b
  omega
theorem args_len {t : List Cell} (h : isTerm t = true) : (argsOf t).length ≤ 3 := by
  obtain ⟨c, gs, e, ea, hn, hf, ho, hl⟩ := args_spec h
  rw [ea, hn]
  exact (cellOk_ar (ho c (by rw [e]; simp))).2

theorem arg_loop {t : List Cell} (h : isTerm t = true) {c : Cell} {q : List Cell} (e : t = c :: q) (h3 : c.f0 = 3) : ∀ (r a : List (List Cell)), argsOf t = a ++ r → Ev (fun k => laws_FnTrmArg.l0 k t a (a.length : Int)) true := by
  have hm := make_args h e h3
  have hal := args_len h
  have hl := (isTerm_iff.1 h).2.1
  have e0 : rd_T35 t 0 = c := by rw [e]; rfl
  have h0 : 0 < (t.length : Int) := by rw [e, List.length_cons]; omega
  intro r
  induction r with
  | nil =>
    intro a ha
    have ha' : argsOf t = a := by simpa using ha
    have hlen := congrArg List.length ha'
    refine Ev.step (fun k => rfl) ?_
    simp only [laws_FnTrmArg.l0]
    refine Ev.ifp h0 ?_
    rw [e0]
    refine Ev.ifn (by rw [hm.2, ha']; omega) (Ev.bind (imake_ev c.f2 a (by omega)) ?_)
    rw [← ha', hm.1]
    refine Ev.bind (caTerm_ev t t (by omega)) (Ev.ifp (by simp) (Ev.bind (iarg_ev t c.f1) ?_))
    rw [arg_out c.f1 (.inr (by rw [hm.2]; omega))]
    refine Ev.ifp (by simp) (Ev.bind (iarg_ev t (-1)) ?_)
    rw [arg_out (-1) (.inl (by omega))]
    exact Ev.now _
  | cons u r ih =>
    intro a ha
    have hlen := congrArg List.length ha
    simp only [List.length_append, List.length_cons] at hlen
    have hu : isTerm u = true := arg_term h (by rw [ha]; simp)
    refine Ev.step (fun k => rfl) ?_
    simp only [laws_FnTrmArg.l0]
    refine Ev.ifp h0 ?_
    rw [e0]
    refine Ev.ifp (by rw [hm.2]; omega) (Ev.bind (iarg_ev t _) ?_)
    rw [arg_at h ha]
    refine Ev.ifp (by omega) (Ev.bindv rfl (Ev.ifp (by omega) (Ev.ifp (by simp; omega) ?_)))
    rw [rdL a [] u]
    refine Ev.bindv (iok u) (Ev.ifp hu ?_)
    rw [wnext (by omega)]
    have I := ih (a ++ [u]) (by rw [ha]; simp)
    rw [show ((a ++ [u]).length : Int) = ((a.length + 1 : Nat) : Int) by simp] at I
    exact I

theorem FnTrmArg (l : List Int) (h : IsCode l) : ∃ k, laws_FnTrmArg.f k l = some true := by
  refine Ev.rounds ?_
  unfold laws_FnTrmArg.f
  by_cases hb : (l.length : Int) > 1048576
  · exact Ev.ifp hb (Ev.now _)
  refine Ev.ifn hb ?_
  obtain ⟨t, a, ht, hs⟩ := draw_arg h
  have hal := argOf_len t a
  have N : (isTerm t = true → ∀ c r, t = c :: r → c.f0 ≠ 3) → ∀ b, b = true → Ev (fun k => laws_FnTrmArg.j0 k t (argOf t a) b) true := by
    intro hn b hb
    refine Ev.step (fun k => rfl) ?_
    simp only [laws_FnTrmArg.j0]
    rw [arg_none a hn]
    exact Ev.ifp hb (Ev.ifp (by simp) (Ev.bindv caOk_ok (Ev.now _)))
  refine Ev.bind ht (Ev.bind (iarg_ev t a) (Ev.bind (sarg_ev t a) (Ev.bind (caTerm_ev _ _ (by omega)) (Ev.ifp (by simp) (Ev.bind (sok_ev t) ?_)))))
  by_cases ho : isTerm t = true
  case neg => exact Ev.ifn ho (N (fun h => absurd h ho) true rfl)
  obtain ⟨c, q, e, _⟩ := (isTerm_iff.1 ho).2.2.2.one
  have e0 : rd_T35 t 0 = c := by rw [e]; rfl
  refine Ev.ifp ho (Ev.ifp (by rw [e, List.length_cons]; omega) ?_)
  rw [e0]
  by_cases h3 : c.f0 = 3
  · rw [show (c.f0 != 3) = false from bne_eq_false_iff_eq.2 h3]
    refine Ev.step (fun k => rfl) ?_
    simp only [laws_FnTrmArg.j0]
    exact Ev.ifn (by simp) (arg_loop ho e h3 (argsOf t) [] rfl)
  · exact N (fun _ d r e' => by rw [e] at e'; rw [← (List.cons.inj e').1]; exact h3) _ (bne_iff_ne.2 h3)
end Go.Proofs.YtlmeookaanjdiaaDoor.Pu
