/- A term's places are just its. -/
import Derived.Test.YtlmeookaanjdiaaDoorMDraw
import Derived.Test.YtlmeookaanjdiaaDoorMCa
import Derived.Test.YtlmeookaanjdiaaDoorP21
import Derived.Test.YtlmeookaanjdiaaDoorP26
namespace Go.Proofs.YtlmeookaanjdiaaDoor.Pu
open Go.RowKit Go.Proofs.YtlmeookaanjdiaaDoor.Cat Go.Proofs.YtlmeookaanjdiaaDoor.P Go.Proofs.YtlmeookaanjdiaaDoorW.PrintWords
set_option linter.unusedVariables false
set_option linter.unusedSimpArgs false
theorem draw_ok {l : List Int} (h : IsCode l) : ∃ t, Ev (fun k => spec_DrawTrmOk.f k l) t ∧ Sms 200000 t := by
  obtain ⟨b, hb, hc⟩ := code_of h
  obtain ⟨t, q, ht, _, _, hs⟩ := termOr_ev hc (p := 0) (by omega) (by omega) 2 (by omega)
  refine ⟨t, ?_, hs⟩
  unfold spec_DrawTrmOk.f
  exact Ev.bindv hb (Ev.bind ht (Ev.now _))

theorem no_part {t : List Cell} (h : isTerm t = true) (k : Nat) (hk : k < t.length) : isTerm (t.take k) = false := by
  rw [Bool.eq_false_iff]
  intro e
  have h1 := (isTerm_iff.1 h).2.2.2
  have h2 := (isTerm_iff.1 e).2.2.2
  have h3 := h2.skip_app (t.drop k)
  rw [List.take_append_drop] at h3
  rw [show skip 1 t = some [] from h1] at h3
  have h4 := congrArg List.length (Option.some.inj h3)
  simp at h4
  omega
theorem no_more {t : List Cell} (h : isTerm t = true) (c : Cell) : isTerm (t ++ [c]) = false := by
  rw [Bool.eq_false_iff]
  intro e
  have h1 := (isTerm_iff.1 h).2.2.2
  have h2 := (isTerm_iff.1 e).2.2.2
  have h3 := h1.skip_app [c]
  rw [show skip 1 (t ++ [c]) = some [] from h2] at h3
  cases h3

theorem whole_loop {t : List Cell} (h : isTerm t = true) : ∀ (n k : Nat), t.length - k = n → k ≤ t.length → Ev (fun q => laws_FnTrmWhole.l0 q t (k : Int)) true := by
  have hl := (isTerm_iff.1 h).2.1
  intro n
  induction n with
  | zero =>
    intro k hk hkl
    refine Ev.step (fun k => rfl) ?_
    simp only [laws_FnTrmWhole.l0]
    refine Ev.ifn (by omega) (Ev.bindv rfl (Ev.ifp (by simp; omega) (Ev.bindv (a := t) (by simp) (Ev.ifp (by omega) (Ev.bindv (iok _) ?_)))))
    rw [no_more h]
    refine Ev.ifn (by simp) (Ev.pure ?_)
    exact decide_eq_true (by omega)
  | succ n ih =>
    intro k hk hkl
    refine Ev.step (fun k => rfl) ?_
    simp only [laws_FnTrmWhole.l0]
    refine Ev.ifp (by omega) (Ev.ifp (by omega) (Ev.ifp (by omega) (Ev.bindv (iok _) ?_)))
    rw [Int.toNat_natCast, no_part h k (by omega), wnext (by omega)]
    exact Ev.ifn (by simp) (ih (k + 1) (by omega) (by omega))

theorem FnTrmWhole (l : List Int) (h : IsCode l) : ∃ k, laws_FnTrmWhole.f k l = some true := by
  refine Ev.rounds ?_
  unfold laws_FnTrmWhole.f
  by_cases hb : (l.length : Int) > 1048576
  · exact Ev.ifp hb (Ev.now _)
  refine Ev.ifn hb ?_
  obtain ⟨t, ht, hs⟩ := draw_ok h
  refine Ev.bind ht (Ev.bindv (iok t) (Ev.bind (sok_ev t) (Ev.ifn (by simp) ?_)))
  by_cases ho : isTerm t = true
  · exact Ev.ifp ho (whole_loop ho t.length 0 (by omega) (by omega))
  · exact Ev.ifn ho (Ev.bindv caOk_ok (Ev.now _))
end Go.Proofs.YtlmeookaanjdiaaDoor.Pu
