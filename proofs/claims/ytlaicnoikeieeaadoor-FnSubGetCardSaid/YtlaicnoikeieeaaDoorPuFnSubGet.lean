/- What SubGet answers is what is bound. -/
import Derived.Test.YtlaicnoikeieeaaDoorMBinds
import Derived.Test.YtlaicnoikeieeaaDoorMCa
import Derived.Test.YtlaicnoikeieeaaDoorP21
import Derived.Test.YtlaicnoikeieeaaDoorP21
import Derived.Test.YtlaicnoikeieeaaDoorP28
import Derived.Test.YtlaicnoikeieeaaDoorP29
namespace Go.Proofs.YtlaicnoikeieeaaDoor.Pu
open Go.RowKit Go.Proofs.YtlaicnoikeieeaaDoor.Cat Go.Proofs.YtlaicnoikeieeaaDoor.P Go.Proofs.YtlaicnoikeieeaaDoorW.PrintWords
set_option linter.unusedVariables false
set_option linter.unusedSimpArgs false
theorem drawSubGet_ev {l : List Int} (h : IsCode l) : ∃ s v, Ev (fun k => spec_DrawSubGet.f k l) (s, v) ∧ Smb s := by
  obtain ⟨b, hb, hc⟩ := code_of h
  obtain ⟨s, q, hs, sm, q0, q1⟩ := bindsOr_ev hc (p := 0) (by omega) (by omega) 9 (by omega)
  obtain ⟨x, hx, _⟩ := pick_ev hc q0 (by omega) 10 (by omega)
  refine ⟨s, wrap64 (x - 1), ?_, sm⟩
  unfold spec_DrawSubGet.f
  exact Ev.bindv hb (Ev.bind hs (Ev.bind hx (Ev.now _)))
theorem ssubget_loop (v : Int) : ∀ (r a : List Bind), a.length + r.length ≤ 1048576 → (∀ b ∈ r, b.f1.length ≤ 1048576) → Ev (fun k => spec_SubGet.l0 k (a ++ r) v ((a.length : Nat) : Int)) (known r v)
  | [], a, h, he => by
    refine Ev.step (fun k => rfl) ?_
    simp only [spec_SubGet.l0]
    exact Ev.ifn (not_lt_app a) (Ev.now _)
  | b :: r, a, h, he => by
    have ih := ssubget_loop v r (a ++ [b]) (by simp at *; omega) (fun c hc => he c (by simp [hc]))
    rw [snoc_len] at ih
    simp only [List.append_assoc, List.singleton_append] at ih
    have hb := he b (by simp)
    refine Ev.step (fun k => rfl) ?_
    simp only [spec_SubGet.l0]
    refine Ev.ifp (lt_app a r b) (Ev.ifp (by omega) ?_)
    rw [rdBb, wnext (by simp at h; omega), known_cons]
    by_cases e : b.f0 = v
    · rw [if_pos e]; exact Ev.ifp e (Ev.bindv rfl (Ev.ifp (by simp; omega) (Ev.now _)))
    · rw [if_neg e]; exact Ev.ifn e ih
theorem isubget (s : List Bind) (v : Int) (he : ∀ b ∈ s, b.f1.length ≤ 1048576) : impl_SubGet.f s v = some (known s v) := by
  unfold impl_SubGet.f known
  cases h : Cat.get s v with
  | none => rfl
  | some t =>
    obtain ⟨b, hb, _, rfl⟩ := get_mem h
    exact clone_ok _ (by have := he b hb; omega)
theorem lawSubGet_loop (v : Int) : ∀ (r a : List Bind), a.length + r.length ≤ 1048576 → (∀ b ∈ r, b.f1.length ≤ 1048576) → Ev (fun k => laws_FnSubGet.l0 k (a ++ r) v (known r v) ((a.length : Nat) : Int)) true
  | [], a, h, he => by
    refine Ev.step (fun k => rfl) ?_
    simp only [laws_FnSubGet.l0]
    exact Ev.ifn (not_lt_app a) (Ev.ifp rfl (Ev.bindv caOk_ok (Ev.now _)))
  | b :: r, a, h, he => by
    have ih := lawSubGet_loop v r (a ++ [b]) (by simp at *; omega) (fun c hc => he c (by simp [hc]))
    rw [snoc_len] at ih
    simp only [List.append_assoc, List.singleton_append] at ih
    have hb := he b (by simp)
    refine Ev.step (fun k => rfl) ?_
    simp only [laws_FnSubGet.l0]
    refine Ev.ifp (lt_app a r b) (Ev.ifp (by omega) ?_)
    rw [rdBb, wnext (by simp at h; omega), known_cons]
    by_cases e : b.f0 = v
    · rw [if_pos e]
      have hc := caTerm_ev b.f1 b.f1 (by omega)
      rw [show decide (b.f1 = b.f1) = true by simp] at hc
      exact Ev.ifp e (Ev.bind hc (Ev.now _))
    · rw [if_neg e]; exact Ev.ifn e ih
theorem FnSubGet (l : List Int) (h : IsCode l) : ∃ k, laws_FnSubGet.f k l = some true := by
  refine Ev.rounds ?_
  unfold laws_FnSubGet.f
  by_cases hl : (l.length : Int) > 1048576
  · exact Ev.ifp hl (Ev.now _)
  refine Ev.ifn hl ?_
  obtain ⟨s, v, hd, sm⟩ := drawSubGet_ev h
  have hs := sm.len
  have he : ∀ b ∈ s, b.f1.length ≤ 1048576 := fun b hb => by have := sm.each b hb; omega
  have h1 := ssubget_loop v s [] (by simp; omega) he
  have h2 := lawSubGet_loop v s [] (by simp; omega) he
  have hk : (known s v).length ≤ 1048576 := known_len ⟨by omega, he⟩ v
  have hc := caTerm_ev (known s v) (known s v) (by omega)
  rw [show decide (known s v = known s v) = true by simp] at hc
  refine Ev.bind hd (Ev.bindv (isubget s v he) (Ev.bind h1 (Ev.bind hc (Ev.ifp rfl h2))))
end Go.Proofs.YtlaicnoikeieeaaDoor.Pu
