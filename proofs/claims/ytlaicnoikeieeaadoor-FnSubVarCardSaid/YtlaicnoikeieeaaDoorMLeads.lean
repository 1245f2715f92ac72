/- What the reference's l2Get, l2Leads and SubOk answer. -/
import Derived.Test.YtlaicnoikeieeaaDoorMFree
import Derived.Test.YtlaicnoikeieeaaDoorMTrm
import Derived.Test.YtlaicnoikeieeaaDoorMDfs
import Derived.Test.YtlaicnoikeieeaaDoorP3
namespace Go.Proofs.YtlaicnoikeieeaaDoor.P
set_option linter.unusedVariables false
set_option linter.unusedSimpArgs false
open Go.RowKit Go.Proofs.YtlaicnoikeieeaaDoor.Cat Go.Proofs.YtlaicnoikeieeaaDoorW.PrintWords Go.Proofs.YtlaicnoikeieeaaDoorW.PrintLast

theorem rdBb (a r : List Bind) (c : Bind) : rd_T30 (a ++ c :: r) ((a.length : Nat) : Int) = c := by simp [rd_T30, List.getD]
theorem known_cons (b : Bind) (s : List Bind) (v : Int) : known (b :: s) v = if b.f0 = v then b.f1 else known s v := by
  unfold known Cat.get
  rw [List.find?_cons]
  by_cases h : b.f0 = v
  · rw [if_pos h, show (b.f0 == v) = true by simpa using h]; rfl
  · rw [if_neg h, show (b.f0 == v) = false by simpa using h]

/-- those of more that are not there yet -/
def addAll (out : List Int) : List Int → List Int
  | [] => out
  | y :: r => if y ∈ out then addAll out r else addAll (out ++ [y]) r
theorem addAll_pre : ∀ (r out : List Int), ∃ e, addAll out r = out ++ e
  | [], out => ⟨[], by simp [addAll]⟩
  | y :: r, out => by
    unfold addAll
    by_cases h : y ∈ out
    · rw [if_pos h]; exact addAll_pre r out
    · rw [if_neg h]
      obtain ⟨e, he⟩ := addAll_pre r (out ++ [y])
      exact ⟨y :: e, by rw [he]; simp⟩
theorem mem_addAll : ∀ (r out : List Int) (v : Int), v ∈ addAll out r ↔ v ∈ out ∨ v ∈ r
  | [], out, v => by simp [addAll]
  | y :: r, out, v => by
    unfold addAll
    by_cases h : y ∈ out
    · rw [if_pos h, mem_addAll r out v]
      constructor
      · rintro (h1 | h1)
        · exact .inl h1
        · exact .inr (by simp [h1])
      · rintro (h1 | h1)
        · exact .inl h1
        · rcases List.mem_cons.1 h1 with rfl | h1
          · exact .inl h
          · exact .inr h1
    · rw [if_neg h, mem_addAll r _ v]
      simp only [List.mem_append, List.mem_cons, List.not_mem_nil, or_false]
      constructor
      · rintro ((h1 | h1) | h1)
        · exact .inl h1
        · exact .inr (.inl h1)
        · exact .inr (.inr h1)
      · rintro (h1 | h1 | h1)
        · exact .inl (.inl h1)
        · exact .inl (.inr h1)
        · exact .inr h1
theorem addAll_nodup : ∀ (r out : List Int), out.Nodup → (addAll out r).Nodup
  | [], out, h => h
  | y :: r, out, h => by
    unfold addAll
    by_cases hy : y ∈ out
    · rw [if_pos hy]; exact addAll_nodup r out h
    · rw [if_neg hy]
      refine addAll_nodup r _ ?_
      rw [List.nodup_append]
      exact ⟨h, by simp, fun a ha b hb => by rw [List.mem_singleton.1 hb]; exact fun e => hy (e ▸ ha)⟩

theorem nodup_len {U l : List Int} (hn : l.Nodup) (hU : ∀ x ∈ l, x ∈ U) : l.length ≤ U.length := by
  induction l generalizing U with
  | nil => simp
  | cons x l ih =>
    rw [List.nodup_cons] at hn
    have hx := hU x (by simp)
    have := ih (U := U.erase x) hn.2 (fun y hy => by
      have hne : y ≠ x := fun e => hn.1 (e ▸ hy)
      exact (List.mem_erase_of_ne hne).2 (hU y (by simp [hy])))
    rw [List.length_erase_of_mem hx] at this
    have := List.length_pos_of_mem hx
    simp only [List.length_cons]
    omega

/-- what is asked of sizes -/
structure SizesB (s : List Bind) : Prop where
  len : s.length ≤ 1048576
  each : ∀ b ∈ s, b.f1.length ≤ 1048576
theorem known_len {s : List Bind} (h : SizesB s) (v : Int) : (known s v).length ≤ 1048576 := by
  cases e : Cat.get s v with
  | none => unfold known; rw [e]; simp
  | some t =>
    obtain ⟨b, hb, _, rfl⟩ := get_mem e
    unfold known; rw [e]; exact h.each b hb
theorem frees_len (l : List Cell) : (frees l).length ≤ l.length := by have := freesOn_len l []; simpa [frees] using this

theorem flat_len : ∀ (s : List Bind), (∀ b ∈ s, b.f1.length ≤ 1048576) → (s.flatMap fun b => frees b.f1).length ≤ s.length * 1048576
  | [], _ => by simp
  | b :: s, h => by
    rw [List.flatMap_cons, List.length_append, List.length_cons]
    have h1 := flat_len s (fun b hb => h b (by simp [hb]))
    have h2 := frees_len b.f1
    have h3 := h b (by simp)
    omega

/-- what the reference asks at one place -/
def okAt (s : List Bind) (i : Nat) (h : i < s.length) : Prop := (0 ≤ s[i].f0 ∧ s[i].f0 ≤ 99999) ∧ isTerm s[i].f1 = true ∧ ¬ Cat.Reach s s[i].f1 s[i].f0 ∧ ∀ j, (hj : j < i) → s[j].f0 ≠ s[i].f0

end Go.Proofs.YtlaicnoikeieeaaDoor.P
