/- Terms with variables renumbered. Plain Lean but for the answers' names. -/
import Derived.Test.YtlmeookaanjdiaaDoorMShift
import Derived.Test.YtlmeookaanjdiaaDoorMCan
import Derived.Test.YtlmeookaanjdiaaDoorMFree
namespace Go.Proofs.YtlmeookaanjdiaaDoor.P
set_option linter.unusedVariables false
set_option linter.unusedSimpArgs false
open Go.RowKit Go.Proofs.YtlmeookaanjdiaaDoor.Cat Go.Proofs.YtlmeookaanjdiaaDoorW.PrintWords Go.Proofs.YtlmeookaanjdiaaDoorW.PrintLast

theorem shift_yes {l : List Cell} {n : Int} (h : isTerm l = true ∧ 0 ≤ n ∧ n ≤ 99999 ∧ isTerm (ren (· + n) l) = true) : shiftOf l n = ren (· + n) l := by
  unfold shiftOf; rw [if_pos h]
theorem shift_no {l : List Cell} {n : Int} (h : ¬ (isTerm l = true ∧ 0 ≤ n ∧ n ≤ 99999 ∧ isTerm (ren (· + n) l) = true)) : shiftOf l n = [] := by
  unfold shiftOf; rw [if_neg h]
theorem ar_ren (ρ : Int → Int) (c : Cell) : ar (if c.f0 = 1 then ⟨c.f0, ρ c.f1, c.f2⟩ else c) = ar c := by
  by_cases h : c.f0 = 1
  · rw [if_pos h]; unfold ar; simp only [h]; rfl
  · rw [if_neg h]
theorem skip_ren (ρ : Int → Int) : ∀ (l : List Cell) (n : Nat), skip n (ren ρ l) = (skip n l).map (ren ρ) := by
  intro l
  induction l with
  | nil =>
    intro n
    cases n with
    | zero => rw [skip_zero, skip_zero]; rfl
    | succ n => rw [skip_nil]; show skip (n + 1) [] = none; rfl
  | cons c l ih =>
    intro n
    cases n with
    | zero => rw [skip_zero, skip_zero]; rfl
    | succ n => rw [ren_cons, skip_cons, skip_cons, ar_ren]; exact ih _
theorem forest_ren {ρ : Int → Int} {l : List Cell} {n : Nat} (h : Forest n l) : Forest n (ren ρ l) := by
  unfold Forest at *
  rw [skip_ren, h]; rfl
theorem okl_ren {ρ : Int → Int} {l : List Cell} (h : okl l) (hr : ∀ c ∈ l, c.f0 = 1 → 0 ≤ ρ c.f1 ∧ ρ c.f1 ≤ 99999) : okl (ren ρ l) := by
  intro d hd
  obtain ⟨c, hc, rfl⟩ := List.mem_map.1 hd
  by_cases hv : c.f0 = 1
  · have h1 := h c hc
    rw [if_pos hv]
    unfold cellOk at h1 ⊢
    rw [if_pos hv] at h1
    rw [if_pos hv, (Bool.and_eq_true_iff.1 h1).2, decide_eq_true (hr c hc hv)]
    rfl
  · rw [if_neg hv]; exact h c hc
theorem var_num {t : List Cell} (h : okl t) {c : Cell} (hc : c ∈ t) (hv : c.f0 = 1) : 0 ≤ c.f1 ∧ c.f1 ≤ 99999 := by
  have h1 := h c hc
  unfold cellOk at h1
  rw [if_pos hv] at h1
  exact of_decide_eq_true (Bool.and_eq_true_iff.1 h1).1
theorem frees_ren {ρ : Int → Int} {l : List Cell} (hi : InjOn ρ (· ∈ frees l)) : frees (ren ρ l) = (frees l).map ρ :=
  freesOn_ren ρ (· ∈ frees l) hi l [] (fun c hc hv => mem_frees.2 ⟨c, hc, hv, rfl⟩) (by simp)
theorem canon_is_ren (l : List Cell) : canon l = ren (fun v => ((idx (frees l) v : Nat) : Int)) l := rfl
theorem idx_inj (l : List Int) : ∀ x y, x ∈ l → y ∈ l → ((idx l x : Nat) : Int) = ((idx l y : Nat) : Int) → x = y := by
  intro x y hx hy h
  have h' : idx l x = idx l y := by omega
  unfold idx at h'
  have e1 : l[l.idxOf x]'(List.idxOf_lt_length_iff.2 hx) = x := List.getElem_idxOf _
  have e2 : l[l.idxOf y]'(List.idxOf_lt_length_iff.2 hy) = y := List.getElem_idxOf _
  rw [← e1, ← e2]
  simp only [h']
theorem canon_inj (l : List Cell) : InjOn (fun v => ((idx (frees l) v : Nat) : Int)) (· ∈ frees l) := fun x y hx hy h => idx_inj (frees l) x y hx hy h
theorem canon_canon (l : List Cell) : canon (canon l) = canon l := by
  rw [canon_is_ren l]
  exact (canon_ren (canon_inj l)).trans (canon_is_ren l)
theorem frees_canon (l : List Cell) : frees (canon l) = (frees l).map (fun v => ((idx (frees l) v : Nat) : Int)) := by
  rw [canon_is_ren l]
  exact frees_ren (canon_inj l)
theorem idx_at {l : List Int} (hn : l.Nodup) (i : Nat) (hi : i < l.length) : idx l l[i] = i := by
  unfold idx
  have h := List.idxOf_lt_length_iff.2 (List.getElem_mem hi)
  have e : l[l.idxOf l[i]]'h = l[i] := List.getElem_idxOf h
  by_cases hlt : l.idxOf l[i] < i
  · exact absurd e (List.pairwise_iff_getElem.1 hn _ _ h hi hlt)
  · by_cases hgt : i < l.idxOf l[i]
    · exact absurd e.symm (List.pairwise_iff_getElem.1 hn _ _ hi h hgt)
    · omega
theorem frees_canon_at (l : List Cell) (i : Nat) (hi : i < (frees (canon l)).length) : rd (frees (canon l)) (i : Int) = (i : Int) := by
  have h1 : (frees (canon l)).length = (frees l).length := by rw [frees_canon, List.length_map]
  have h2 : i < (frees l).length := by omega
  unfold rd
  simp only [Int.toNat_natCast, List.getD_eq_getElem?_getD, frees_canon, List.getElem?_map, List.getElem?_eq_getElem h2, Option.map_some, Option.getD_some]
  rw [idx_at (frees_nodup l) i h2]
theorem term_canon {l : List Cell} (h : isTerm l = true) : isTerm (canon l) = true := by
  obtain ⟨h1, h2, h3, h4⟩ := isTerm_iff.1 h
  have hfl : (frees l).length ≤ l.length := by
    have := freesOn_len l []
    simp only [List.length_nil, Nat.zero_add] at this
    exact this
  refine isTerm_iff.2 ⟨by rw [canon_len]; exact h1, by rw [canon_len]; exact h2, ?_, ?_⟩
  · rw [canon_is_ren]
    refine okl_ren h3 (fun c hc hv => ?_)
    have : idx (frees l) c.f1 ≤ (frees l).length := List.idxOf_le_length
    omega
  · rw [canon_is_ren]; exact forest_ren h4
theorem add_inj (n : Int) (P : Int → Prop) : InjOn (· + n) P := fun x y _ _ h => by
  have : x + n = y + n := h
  omega
theorem ren_zero (l : List Cell) : ren (· + 0) l = l := by
  unfold ren
  conv => rhs; rw [← List.map_id l]
  refine List.map_congr_left fun c _ => ?_
  by_cases h : c.f0 = 1
  · rw [if_pos h]; cases c; simp
  · rw [if_neg h]; rfl
theorem ren_ren (a b : Int) (l : List Cell) : ren (· + b) (ren (· + a) l) = ren (· + (a + b)) l := by
  unfold ren
  rw [List.map_map]
  refine List.map_congr_left fun c _ => ?_
  simp only [Function.comp_apply]
  by_cases h : c.f0 = 1
  · simp only [h, if_true]
    rw [Int.add_assoc]
  · simp only [h, if_false]
end Go.Proofs.YtlmeookaanjdiaaDoor.P
