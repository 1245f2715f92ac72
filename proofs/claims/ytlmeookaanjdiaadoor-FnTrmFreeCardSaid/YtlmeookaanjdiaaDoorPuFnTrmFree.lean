/- A term's variables are told once each. -/
import Derived.Test.YtlmeookaanjdiaaDoorMDraw
import Derived.Test.YtlmeookaanjdiaaDoorMFree
import Derived.Test.YtlmeookaanjdiaaDoorMCa
import Derived.Test.YtlmeookaanjdiaaDoorP21
import Derived.Test.YtlmeookaanjdiaaDoorP25
namespace Go.Proofs.YtlmeookaanjdiaaDoor.Pu
open Go.RowKit Go.Proofs.YtlmeookaanjdiaaDoor.Cat Go.Proofs.YtlmeookaanjdiaaDoor.P Go.Proofs.YtlmeookaanjdiaaDoorW.PrintWords
set_option linter.unusedVariables false
set_option linter.unusedSimpArgs false
theorem draw_free {l : List Int} (h : IsCode l) : ∃ t, Ev (fun k => spec_DrawTrmFree.f k l) t ∧ Sms 200000 t := by
  obtain ⟨b, hb, hc⟩ := code_of h
  obtain ⟨t, q, ht, _, _, hs⟩ := termOr_ev hc (p := 0) (by omega) (by omega) 9 (by omega)
  refine ⟨t, ?_, hs⟩
  unfold spec_DrawTrmFree.f
  exact Ev.bindv hb (Ev.bind ht (Ev.now _))

theorem free_one {fs : List Int} (hn : fs.Nodup) (hl : fs.length ≤ 1000) (N : Int) (j : Nat) (hj : j < fs.length) (H : Ev (fun k => laws_FnTrmFree.l1 k fs N ((j + 1 : Nat) : Int)) true) :
    ∀ (m i : Nat), j - i = m → i ≤ j → Ev (fun k => laws_FnTrmFree.l2 k fs N (j : Int) (i : Int)) true := by
  intro m
  induction m with
  | zero =>
    intro i hi hij
    refine Ev.step (fun k => rfl) ?_
    simp only [laws_FnTrmFree.l2]
    refine Ev.ifn (by omega) ?_
    rw [wnext (by omega)]
    exact H
  | succ m ih =>
    intro i hi hij
    have hlt : i < j := by omega
    have hne : rd fs (i : Int) ≠ rd fs (j : Int) := by
      have := List.pairwise_iff_getElem.1 hn i j (by omega) hj hlt
      have e : ∀ q : Nat, (hq : q < fs.length) → rd fs (q : Int) = fs[q] := by
        intro q hq
        unfold rd
        simp only [Int.toNat_natCast, List.getD_eq_getElem?_getD, List.getElem?_eq_getElem hq, Option.getD_some]
      rw [e i (by omega), e j hj]
      exact this
    refine Ev.step (fun k => rfl) ?_
    simp only [laws_FnTrmFree.l2]
    refine Ev.ifp (by omega) (Ev.ifp (by omega) (Ev.ifp (by omega) (Ev.ifp (by omega) (Ev.ifp (by omega) (Ev.ifn hne ?_)))))
    rw [wnext (by omega)]
    exact ih (i + 1) (by omega) (by omega)

theorem free_two {fs : List Int} (hn : fs.Nodup) (hl : fs.length ≤ 1000) : ∀ (n j : Nat), fs.length - j = n → Ev (fun k => laws_FnTrmFree.l1 k fs (fs.length : Int) (j : Int)) true := by
  intro n
  induction n with
  | zero =>
    intro j hj
    refine Ev.step (fun k => rfl) ?_
    simp only [laws_FnTrmFree.l1]
    refine Ev.ifn (by omega) (Ev.ifp (by simp) (Ev.bindv caOk_ok (Ev.now _)))
  | succ n ih =>
    intro j hj
    refine Ev.step (fun k => rfl) ?_
    simp only [laws_FnTrmFree.l1]
    refine Ev.ifp (by omega) ?_
    exact free_one hn hl _ j (by omega) (ih (j + 1) (by omega)) j 0 (by omega) (by omega)

theorem free_count {fs : List Int} (hn : fs.Nodup) (hl : fs.length ≤ 1000) : ∀ (r a : List Cell) (acc : List Int), fs = freesOn acc r → a.length + r.length ≤ 1000 →
    Ev (fun k => laws_FnTrmFree.l0 k (a ++ r) fs (acc.length : Int) (a.length : Int)) true := by
  intro r
  induction r with
  | nil =>
    intro a acc hf hlen
    refine Ev.step (fun k => rfl) ?_
    simp only [laws_FnTrmFree.l0]
    refine Ev.ifn (not_lt_app a) ?_
    have e : acc = fs := hf.symm
    rw [e]
    exact free_two hn hl fs.length 0 (by omega)
  | cons c r ih =>
    intro a acc hf hlen
    simp only [List.length_cons] at hlen
    have I := fun acc' h => ih (a ++ [c]) acc' h (by simp; omega)
    have e : (a ++ [c]) ++ r = a ++ c :: r := by simp
    simp only [e, snoc_len] at I
    refine Ev.step (fun k => rfl) ?_
    simp only [laws_FnTrmFree.l0]
    refine Ev.ifp (lt_app a r c) (Ev.ifp (by omega) ?_)
    rw [rdC, wnext (i := a.length) (by omega)]
    unfold freesOn at hf
    by_cases hv : c.f0 = 1
    case neg =>
      rw [if_neg (by simp [hv])] at hf
      exact Ev.ifn hv (I acc hf)
    refine Ev.ifp hv ?_
    by_cases hm : c.f1 ∈ acc
    · rw [if_neg (by simp [hm])] at hf
      obtain ⟨e', he⟩ := freesOn_pre r acc
      by_cases hlt : (acc.length : Int) < (fs.length : Int)
      · refine Ev.ifp hlt (Ev.ifp (by omega) (Ev.ifn ?_ (I acc hf)))
        intro hq
        rw [hf, he] at hn hlt hq
        cases e' with
        | nil => simp at hlt
        | cons d e' =>
          rw [rdI acc e' d] at hq
          have := (List.nodup_append.1 hn).2.2 _ hm d (by simp)
          exact this hq.symm
      · exact Ev.ifn hlt (I acc hf)
    · rw [if_pos ⟨hv, hm⟩] at hf
      obtain ⟨e', he⟩ := freesOn_pre r (acc ++ [c.f1])
      have hfs : fs = acc ++ c.f1 :: e' := by rw [hf, he]; simp
      have J := I (acc ++ [c.f1]) hf
      rw [show ((acc ++ [c.f1]).length : Int) = ((acc.length + 1 : Nat) : Int) by simp] at J
      have hlf : fs.length = acc.length + (e'.length + 1) := by rw [hfs]; simp
      refine Ev.ifp (by omega) (Ev.ifp (by omega) (Ev.ifp (by rw [hfs]; exact rdI acc e' c.f1) ?_))
      rw [wnext (i := acc.length) (by omega)]
      exact J

theorem FnTrmFree (l : List Int) (h : IsCode l) : ∃ k, laws_FnTrmFree.f k l = some true := by
  refine Ev.rounds ?_
  unfold laws_FnTrmFree.f
  by_cases hb : (l.length : Int) > 1048576
  · exact Ev.ifp hb (Ev.now _)
  refine Ev.ifn hb ?_
  obtain ⟨t, ht, hs⟩ := draw_free h
  have hl := hs.1
  have hfl : (frees t).length ≤ t.length := by
    have := freesOn_len t []
    simp only [List.length_nil, Nat.zero_add] at this
    exact this
  refine Ev.bind ht (Ev.bind (ifree_ev t (by omega)) (Ev.bind (sfree_ev t (by omega)) (Ev.bind (caInts_ev _ _ (by omega)) (Ev.ifp (by simp) ?_))))
  have I := free_count (frees_nodup t) (by omega) t [] [] rfl (by simp; omega)
  simpa using I
end Go.Proofs.YtlmeookaanjdiaaDoor.Pu
