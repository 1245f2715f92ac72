/- Variables in the order in which they come first; places with variables renumbered so; two terms that come from each other are one but for numbers. Plain Lean, no program. -/
import Derived.Test.YtibencknfheplaaDoorMOk
namespace Go.Proofs.YtibencknfheplaaDoor.Cat
set_option linter.unusedVariables false
set_option linter.unusedSimpArgs false

/-- the variables, each once, behind some -/
def freesOn : List Int → List Cell → List Int
  | acc, [] => acc
  | acc, c :: l => if c.f0 = 1 ∧ c.f1 ∉ acc then freesOn (acc ++ [c.f1]) l else freesOn acc l
def frees (l : List Cell) : List Int := freesOn [] l

def idx (l : List Int) (v : Int) : Nat := l.idxOf v
def canonBy (fs : List Int) (l : List Cell) : List Cell := l.map fun c => if c.f0 = 1 then ⟨c.f0, (idx fs c.f1 : Int), c.f2⟩ else c
def canon (l : List Cell) : List Cell := canonBy (frees l) l

theorem freesOn_pre : ∀ (l : List Cell) (acc : List Int), ∃ e, freesOn acc l = acc ++ e
  | [], acc => ⟨[], by simp [freesOn]⟩
  | c :: l, acc => by
    unfold freesOn
    split
    · obtain ⟨e, he⟩ := freesOn_pre l (acc ++ [c.f1]); exact ⟨c.f1 :: e, by rw [he]; simp⟩
    · exact freesOn_pre l acc

theorem freesOn_nodup : ∀ (l : List Cell) (acc : List Int), acc.Nodup → (freesOn acc l).Nodup
  | [], acc, h => h
  | c :: l, acc, h => by
    unfold freesOn
    split
    · rename_i hc
      refine freesOn_nodup l _ ?_
      rw [List.nodup_append]
      refine ⟨h, by simp, ?_⟩
      intro a ha b hb e
      rw [List.mem_singleton.1 hb] at e
      exact hc.2 (e ▸ ha)
    · exact freesOn_nodup l acc h
theorem frees_nodup (l : List Cell) : (frees l).Nodup := freesOn_nodup l [] (by simp)

theorem mem_freesOn : ∀ (l : List Cell) (acc : List Int) (v : Int), v ∈ freesOn acc l ↔ v ∈ acc ∨ ∃ c ∈ l, c.f0 = 1 ∧ c.f1 = v
  | [], acc, v => by simp [freesOn]
  | c :: l, acc, v => by
    unfold freesOn
    split
    · rename_i hc
      rw [mem_freesOn l]
      simp only [List.mem_append, List.mem_cons, List.not_mem_nil, or_false, exists_eq_or_imp]
      constructor
      · rintro ((h | h) | h)
        · exact .inl h
        · exact .inr (.inl ⟨hc.1, h.symm⟩)
        · exact .inr (.inr h)
      · rintro (h | ⟨_, h⟩ | h)
        · exact .inl (.inl h)
        · exact .inl (.inr h.symm)
        · exact .inr h
    · rename_i hc
      rw [mem_freesOn l]
      simp only [List.mem_cons, exists_eq_or_imp]
      constructor
      · rintro (h | h)
        · exact .inl h
        · exact .inr (.inr h)
      · rintro (h | ⟨h1, h2⟩ | h)
        · exact .inl h
        · left
          by_cases hm : c.f1 ∈ acc
          · exact h2 ▸ hm
          · exact absurd ⟨h1, hm⟩ hc
        · exact .inr h
theorem mem_frees {l : List Cell} {v : Int} : v ∈ frees l ↔ ∃ c ∈ l, c.f0 = 1 ∧ c.f1 = v := by
  unfold frees; rw [mem_freesOn]; simp

/-- each variable by another number -/
def ren (ρ : Int → Int) (l : List Cell) : List Cell := l.map fun c => if c.f0 = 1 then ⟨c.f0, ρ c.f1, c.f2⟩ else c

theorem ren_cons (ρ : Int → Int) (c : Cell) (l : List Cell) : ren ρ (c :: l) = (if c.f0 = 1 then ⟨c.f0, ρ c.f1, c.f2⟩ else c) :: ren ρ l := rfl

def InjOn (ρ : Int → Int) (P : Int → Prop) : Prop := ∀ x y, P x → P y → ρ x = ρ y → x = y

theorem freesOn_ren (ρ : Int → Int) (P : Int → Prop) (hi : InjOn ρ P) : ∀ (l : List Cell) (acc : List Int), (∀ c ∈ l, c.f0 = 1 → P c.f1) → (∀ v ∈ acc, P v) →
    freesOn (acc.map ρ) (ren ρ l) = (freesOn acc l).map ρ
  | [], acc, _, _ => rfl
  | c :: l, acc, hl, ha => by
    rw [ren_cons]
    unfold freesOn
    by_cases hc : c.f0 = 1
    · rw [if_pos hc]
      have hm : ρ c.f1 ∈ acc.map ρ ↔ c.f1 ∈ acc := by
        constructor
        · intro h
          obtain ⟨x, hx, e⟩ := List.mem_map.1 h
          rw [hi _ _ (hl c (by simp) hc) (ha x hx) e.symm]
          exact hx
        · exact fun h => List.mem_map_of_mem h
      by_cases hin : c.f1 ∈ acc
      · rw [if_neg (by simp [hm, hin]), if_neg (by simp [hin])]
        exact freesOn_ren ρ P hi l acc (fun d hd => hl d (by simp [hd])) ha
      · rw [if_pos ⟨hc, by rw [hm]; exact hin⟩, if_pos ⟨hc, hin⟩]
        have := freesOn_ren ρ P hi l (acc ++ [c.f1]) (fun d hd => hl d (by simp [hd])) (fun v hv => by
          rcases List.mem_append.1 hv with hv | hv
          · exact ha v hv
          · rw [List.mem_singleton.1 hv]; exact hl c (by simp) hc)
        rw [List.map_append] at this
        exact this
    · rw [if_neg hc, if_neg (by simp [hc]), if_neg (by simp [hc])]
      exact freesOn_ren ρ P hi l acc (fun d hd => hl d (by simp [hd])) ha

theorem idx_map (ρ : Int → Int) (P : Int → Prop) (hi : InjOn ρ P) : ∀ (l : List Int) (v : Int), (∀ x ∈ l, P x) → P v → idx (l.map ρ) (ρ v) = idx l v
  | [], v, _, _ => rfl
  | x :: l, v, hl, hv => by
    unfold idx
    rw [List.map_cons, List.idxOf_cons, List.idxOf_cons]
    have ih := idx_map ρ P hi l v (fun y hy => hl y (by simp [hy])) hv
    unfold idx at ih
    by_cases h : x = v
    · subst h; simp
    · have h' : ρ x ≠ ρ v := fun e => h (hi _ _ (hl x (by simp)) hv e)
      rw [ih, beq_eq_false_iff_ne.2 h, beq_eq_false_iff_ne.2 h']

/-- how variables are numbered makes no difference -/
theorem canon_ren {ρ : Int → Int} {l : List Cell} (hi : InjOn ρ (· ∈ frees l)) : canon (ren ρ l) = canon l := by
  have hP : ∀ c ∈ l, c.f0 = 1 → c.f1 ∈ frees l := fun c hc hv => mem_frees.2 ⟨c, hc, hv, rfl⟩
  have hf : frees (ren ρ l) = (frees l).map ρ := freesOn_ren ρ (· ∈ frees l) hi l [] hP (by simp)
  unfold canon
  rw [hf]
  unfold canonBy ren
  rw [List.map_map]
  refine List.map_congr_left fun c hc => ?_
  simp only [Function.comp_apply]
  by_cases hv : c.f0 = 1
  · simp only [hv, if_true]
    rw [idx_map ρ (· ∈ frees l) hi (frees l) c.f1 (fun _ h => h) (hP c hc hv)]
  · simp only [hv, if_false]

theorem freesOn_seq : ∀ (l : List Cell) (acc : List Int) , freesOn acc l = freesOn acc l := fun _ _ => rfl

theorem canon_len (l : List Cell) : (canon l).length = l.length := by simp [canon, canonBy]

/-- places that come from each other by what is put for variables are one but for variables' numbers -/
theorem app_each {θ : Int → List Cell} (hθ : Wf θ) : ∀ {l v : List Cell}, app θ l = v → v.length = l.length →
    v.length = l.length ∧ ∀ i (h : i < l.length) (h' : i < v.length), (l[i].f0 = 1 → θ l[i].f1 = [v[i]]) ∧ (l[i].f0 ≠ 1 → v[i] = l[i])
  | [], v, e, hl => ⟨hl, fun i h => by cases h⟩
  | c :: l, v, e, hl => by
    have h1 := app_len hθ l
    rw [app_cons] at e
    by_cases hc : c.f0 = 1
    · rw [if_pos hc] at e
      have h2 := (hθ c.f1).len
      have h3 : (θ c.f1).length + (app θ l).length = l.length + 1 := by
        rw [← List.length_append, e, hl, List.length_cons]
      obtain ⟨d, hd⟩ : ∃ d, θ c.f1 = [d] := by
        match hx : θ c.f1 with
        | [] => rw [hx] at h2; simp at h2
        | [d] => exact ⟨d, rfl⟩
        | d :: d' :: r => rw [hx] at h3; simp at h3; omega
      rw [hd] at e
      subst e
      have ih := (app_each hθ (l := l) rfl (by rw [hd] at h3; simp at h3; omega)).2
      refine ⟨hl, fun i h h' => ?_⟩
      cases i with
      | zero => exact ⟨fun _ => hd, fun h => absurd hc h⟩
      | succ i => exact ih i (by simpa using h) (by simpa using h')
    · rw [if_neg hc] at e
      subst e
      have ih := (app_each hθ (l := l) rfl (by simpa using hl)).2
      refine ⟨hl, fun i h h' => ?_⟩
      cases i with
      | zero => exact ⟨fun h => absurd h hc, fun _ => rfl⟩
      | succ i => exact ih i (by simpa using h) (by simpa using h')

theorem variants {θ η : Int → List Cell} (hθ : Wf θ) (hη : Wf η) {u v : List Cell} (hu : okl u) (hv : okl v) (h1 : app θ u = v) (h2 : app η v = u) : canon v = canon u := by
  have l1 := app_len hθ u
  have l2 := app_len hη v
  rw [h1] at l1
  rw [h2] at l2
  have hl : v.length = u.length := by omega
  obtain ⟨_, e1⟩ := app_each hθ h1 hl
  obtain ⟨_, e2⟩ := app_each hη h2 hl.symm
  -- position by position: a variable for a variable, and else the same
  have key : ∀ i (h : i < u.length) (h' : i < v.length), (u[i].f0 = 1 ↔ v[i].f0 = 1) ∧ (u[i].f0 ≠ 1 → v[i] = u[i]) := by
    intro i h h'
    refine ⟨⟨fun hx => ?_, fun hx => ?_⟩, (e1 i h h').2⟩
    · by_cases hy : v[i].f0 = 1
      · exact hy
      · have := (e2 i h' h).2 hy; rw [← this]; exact hx
    · by_cases hy : u[i].f0 = 1
      · exact hy
      · have := (e1 i h h').2 hy; rw [this] at hx; exact hx
  let ρ : Int → Int := fun x => ((θ x).head?.map (·.f1)).getD 0
  have hren : ren ρ u = v := by
    apply List.ext_getElem
    · simp [ren, hl]
    · intro i h h'
      have hi : i < u.length := by simpa [ren] using h
      simp only [ren, List.getElem_map]
      by_cases hx : u[i].f0 = 1
      · rw [if_pos hx]
        have a1 := (e1 i hi h').1 hx
        have a2 := (key i hi h').1.1 hx
        have a3 := varc_of_ok (hv _ (List.getElem_mem h')) a2
        have a4 := varc_of_ok (hu _ (List.getElem_mem hi)) hx
        have : ρ u[i].f1 = v[i].f1 := by simp only [ρ, a1]; rfl
        rw [this, a3, hx]
        rw [a4]
        rfl
      · rw [if_neg hx]; exact ((key i hi h').2 hx).symm
  have hi : InjOn ρ (· ∈ frees u) := by
    intro x y hx hy e
    obtain ⟨c, hc, hcv, rfl⟩ := mem_frees.1 hx
    obtain ⟨d, hd, hdv, rfl⟩ := mem_frees.1 hy
    obtain ⟨i, h, rfl⟩ := List.getElem_of_mem hc
    obtain ⟨j, h', rfl⟩ := List.getElem_of_mem hd
    have hvi : i < v.length := by omega
    have hvj : j < v.length := by omega
    have a1 := (e1 i h hvi).1 hcv
    have b1 := (e1 j h' hvj).1 hdv
    have a2 := (key i h hvi).1.1 hcv
    have b2 := (key j h' hvj).1.1 hdv
    have a3 := (e2 i hvi h).1 a2
    have b3 := (e2 j hvj h').1 b2
    have ea : ρ u[i].f1 = v[i].f1 := by simp only [ρ, a1]; rfl
    have eb : ρ u[j].f1 = v[j].f1 := by simp only [ρ, b1]; rfl
    have e' : ρ u[i].f1 = ρ u[j].f1 := e
    rw [ea, eb] at e'
    rw [e', b3] at a3
    rw [(List.cons.inj a3).1]
  rw [← hren]
  exact canon_ren hi

end Go.Proofs.YtibencknfheplaaDoor.Cat
