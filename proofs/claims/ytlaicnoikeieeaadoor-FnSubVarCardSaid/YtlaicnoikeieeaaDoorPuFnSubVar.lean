/- A variable can be whatever does not hold it. -/
import Derived.Test.YtlaicnoikeieeaaDoorMDraw
import Derived.Test.YtlaicnoikeieeaaDoorMCa
import Derived.Test.YtlaicnoikeieeaaDoorMUniS
import Derived.Test.YtlaicnoikeieeaaDoorP18
import Derived.Test.YtlaicnoikeieeaaDoorP19
namespace Go.Proofs.YtlaicnoikeieeaaDoor.Pu
open Go.RowKit Go.Proofs.YtlaicnoikeieeaaDoor.Cat Go.Proofs.YtlaicnoikeieeaaDoor.P Go.Proofs.YtlaicnoikeieeaaDoorW.PrintWords
set_option linter.unusedVariables false
set_option linter.unusedSimpArgs false
theorem draw_ok {l : List Int} (h : IsCode l) : ∃ t, Ev (fun k => spec_DrawTrmOk.f k l) t ∧ Sms 200000 t := by
  obtain ⟨b, hb, hc⟩ := code_of h
  obtain ⟨t, q, ht, _, _, hs⟩ := termOr_ev hc (p := 0) (by omega) (by omega) 2 (by omega)
  refine ⟨t, ?_, hs⟩
  unfold spec_DrawTrmOk.f
  exact Ev.bindv hb (Ev.bind ht (Ev.now _))
theorem uni0 (a b : List Cell) : Ev (fun k => impl_SubUnify.f k ([] : List Bind) a b) (subUnify [] a b) := isubunify_ev [] (by simp) a b

theorem last {t : List Cell} (ht : isTerm t = true) {v : Int} (hv : 0 ≤ v ∧ v ≤ 99999) (hf : v ∉ frees t) (fs : List Int) (i : Int) (hi : ¬ i < (fs.length : Int)) : Ev (fun k => laws_FnSubVar.l1 k t fs v i) true := by
  refine Ev.step (fun k => rfl) ?_
  simp only [laws_FnSubVar.l1]
  refine Ev.ifn hi (Ev.bindv rfl ?_)
  have e1 := uni0 [varc v] t
  have e2 := uni0 [varc v] (around v)
  have e3 := uni0 [varc v] [varc v]
  rw [law_var ht hv hf] at e1
  rw [law_around hv] at e2
  rw [law_same hv] at e3
  refine Ev.bind e1 (Ev.bind e2 (Ev.bind e3 ?_))
  have j2 : Ev (fun k => laws_FnSubVar.j2 k true) true := Ev.step (fun k => rfl) (Ev.now _)
  have j3 : Ev (fun k => laws_FnSubVar.j3 k true) true := Ev.step (fun k => rfl) (Ev.now _)
  have j4 : Ev (fun k => laws_FnSubVar.j4 k true) true := Ev.step (fun k => rfl) (Ev.now _)
  have hl := (isTerm_iff.1 ht).2.1
  have hc := caTerm_ev t t (by omega)
  have h1 := (isTerm_iff.1 ht).1
  by_cases hl1 : (t.length : Int) = 1
  · refine Ev.ifp hl1 (Ev.ifp (by omega) ?_)
    by_cases hk : (rd_T46 t 0).f0 = 1
    · exact Ev.ifp hk (Ev.ifp rfl (Ev.ifp rfl (Ev.ifp rfl (Ev.ifp rfl j2))))
    · exact Ev.ifn hk (Ev.ifp rfl (Ev.ifp rfl (Ev.ifp (by simp) (Ev.ifp rfl (Ev.bind hc (Ev.ifp (by simp) (Ev.ifp rfl (Ev.ifp rfl j3))))))))
  · exact Ev.ifn hl1 (Ev.ifp rfl (Ev.ifp rfl (Ev.ifp (by simp) (Ev.ifp rfl (Ev.bind hc (Ev.ifp (by simp) (Ev.ifp rfl (Ev.ifp rfl j4))))))))

theorem among {t : List Cell} (ht : isTerm t = true) {v : Int} (hv : 0 ≤ v ∧ v ≤ 99999) : ∀ (r a : List Int), frees t = a ++ r → v ∉ a → (a ++ r).length ≤ 40 → Ev (fun k => laws_FnSubVar.l1 k t (a ++ r) v ((a.length : Nat) : Int)) true
  | [], a, e, ha, hl => last ht hv (by rw [e]; simpa using ha) _ _ (not_lt_app a)
  | x :: r, a, e, ha, hl => by
    refine Ev.step (fun k => rfl) ?_
    simp only [laws_FnSubVar.l1]
    refine Ev.ifp (lt_app a r x) (Ev.ifp (by omega) ?_)
    rw [rdI]
    by_cases hx : x = v
    · exact Ev.ifp hx (Ev.bindv caOk_ok (Ev.now _))
    · have I := among ht hv r (a ++ [x]) (by rw [e]; simp) (by simp only [List.mem_append, List.mem_singleton]; rintro (h | h); exact ha h; exact hx h.symm) (by simpa using hl)
      rw [snoc_len, List.append_assoc, List.singleton_append] at I
      refine Ev.ifn hx ?_
      simp at hl
      rw [wnext (by omega)]
      exact I
theorem upto {t : List Cell} (ht : isTerm t = true) : ∀ (r a : List Int) (v : Int), frees t = a ++ r → 0 ≤ v ∧ v ≤ 99999 → (∀ x ∈ r, 0 ≤ x ∧ x ≤ 99999) → (a ++ r).length ≤ 40 → Ev (fun k => laws_FnSubVar.l0 k t (a ++ r) v ((a.length : Nat) : Int)) true
  | [], a, v, e, hv, hr, hl => by
    refine Ev.step (fun k => rfl) ?_
    simp only [laws_FnSubVar.l0]
    refine Ev.ifn (not_lt_app a) ?_
    have := among ht hv (a ++ []) [] (by simpa using e) (by simp) (by simpa using hl)
    exact this
  | x :: r, a, v, e, hv, hr, hl => by
    have hx := hr x (by simp)
    refine Ev.step (fun k => rfl) ?_
    simp only [laws_FnSubVar.l0]
    refine Ev.ifp (lt_app a r x) (Ev.ifp (by omega) ?_)
    rw [rdI, w64 (by omega) (by omega)]
    have I := upto ht r (a ++ [x]) (mx v (mn (x + 1) 99999)) (by rw [e]; simp) (by unfold mx mn; split <;> split <;> omega) (fun y hy => hr y (by simp [hy])) (by simpa using hl)
    rw [snoc_len, List.append_assoc, List.singleton_append] at I
    simp at hl
    rw [wnext (by omega)]
    exact I

theorem FnSubVar (l : List Int) (h : IsCode l) : ∃ k, laws_FnSubVar.f k l = some true := by
  refine Ev.rounds ?_
  unfold laws_FnSubVar.f
  by_cases hb : (l.length : Int) > 1048576
  · exact Ev.ifp hb (Ev.now _)
  refine Ev.ifn hb ?_
  obtain ⟨t, ht, hs⟩ := draw_ok h
  refine Ev.bind ht (Ev.bind (sok_ev t) ?_)
  by_cases ho : isTerm t = true
  · refine Ev.ifp ho ?_
    have hl := (isTerm_iff.1 ho).2.1
    refine Ev.bind (ifree_ev t (by omega)) ?_
    have hfl := frees_len t
    have := upto ho (frees t) [] 50 rfl (by omega) (fun x hx => by
      obtain ⟨c, hc, h1, rfl⟩ := mem_frees.1 hx
      exact var_range ((isTerm_iff.1 ho).2.2.1 c hc) h1) (by simp; omega)
    exact this
  · refine Ev.ifn ho ?_
    have e := uni0 t t
    rw [subUnify_no (fun q => ho q.2.1)] at e
    exact Ev.bind e (Ev.ifp rfl (Ev.bindv caOk_ok (Ev.now _)))
end Go.Proofs.YtlaicnoikeieeaaDoor.Pu
