/- What SubUnify, SubFull and SubGet answer, and the laws of bindings: plain Lean, no program. -/
import Derived.Test.YtlaicnoikeieeaaDoorMUni
import Derived.Test.YtlaicnoikeieeaaDoorMCan
namespace Go.Proofs.YtlaicnoikeieeaaDoor.Cat
set_option linter.unusedVariables false
set_option linter.unusedSimpArgs false

theorem isTerm_iff' {l : List Cell} : isTerm l = true ↔ 1 ≤ l.length ∧ l.length ≤ 40 ∧ okl l ∧ Forest 1 l := by
  unfold isTerm Forest okl
  simp only [Bool.and_eq_true, decide_eq_true_eq, List.all_eq_true]
  constructor
  · rintro ⟨⟨h1, h2⟩, h3, h4⟩; exact ⟨h1, h2, h3, h4⟩
  · rintro ⟨h1, h2, h3, h4⟩; exact ⟨⟨h1, h2⟩, h3, h4⟩

/-- bindings that are ok, and small -/
structure Oks (s : List Bind) : Prop where
  good : Good s
  small : ∀ b ∈ s, b.f1.length ≤ 40

theorem Oks.nil : Oks [] := ⟨Good.nil, by simp⟩
theorem Oks.pre {s e : List Bind} (h : Oks (s ++ e)) : Oks s := ⟨h.good.pre, fun b hb => h.small b (by simp [hb])⟩
theorem Oks.isTerm {s : List Bind} (h : Oks s) {b : Bind} (hb : b ∈ s) : isTerm b.f1 = true := by
  have := h.good.term b hb
  exact isTerm_iff'.2 ⟨this.1.len, h.small b hb, this.2, this.1⟩
theorem isTerm_nil : isTerm [] = false := rfl
theorem isTerm_pos {l : List Cell} (h : isTerm l = true) : l ≠ [] := by rintro rfl; cases h
theorem cellOk_var {v : Int} (h : 0 ≤ v ∧ v ≤ 99999) : cellOk (varc v) = true := by
  unfold cellOk varc
  rw [if_pos rfl, decide_eq_true h]
  rfl
theorem var_range {c : Cell} (h : cellOk c = true) (hv : c.f0 = 1) : 0 ≤ c.f1 ∧ c.f1 ≤ 99999 := by
  unfold cellOk at h
  rw [if_pos hv, Bool.and_eq_true] at h
  exact of_decide_eq_true h.1
theorem isTerm_var {v : Int} (h : 0 ≤ v ∧ v ≤ 99999) : isTerm [varc v] = true := by
  refine isTerm_iff'.2 ⟨by simp, by simp, ?_, ?_⟩
  · intro c hc
    rw [List.mem_singleton.1 hc]
    exact cellOk_var h
  · exact Forest.cons_iff.2 (by rw [ar_var (show (varc v).f0 = 1 from rfl)]; exact Forest.nil)

open Classical in
noncomputable def uni (s : List Bind) (ps : Pairs) : Option (List Bind) := if h : ∃ r, Uni s ps r then h.choose else none
theorem uni_spec {s : List Bind} {ps : Pairs} (hs : Good s) (ho : OkP ps) : Uni s ps (uni s ps) := by
  have h := Uni.total hs ho
  unfold uni
  rw [dif_pos h]
  exact h.choose_spec
theorem uni_eq {s : List Bind} {ps : Pairs} {r : Option (List Bind)} (h : Uni s ps r) : uni s ps = r := by
  have h' : ∃ r, Uni s ps r := ⟨r, h⟩
  unfold uni
  rw [dif_pos h']
  exact h'.choose_spec.det h

/-- the code and the bindings, of what is ok -/
noncomputable def meet (s : List Bind) (a b : List Cell) : List Bind × Int :=
  if 40 < (full s a).length ∨ 40 < (full s b).length then ([], 3)
  else match uni s [(a, b)] with
    | none => ([], 2)
    | some x => if 40 < (full x a).length then ([], 3) else (x, 1)
open Classical in
noncomputable def subUnify (s : List Bind) (a b : List Cell) : List Bind × Int := if Oks s ∧ isTerm a = true ∧ isTerm b = true then meet s a b else ([], 4)
open Classical in
noncomputable def subFull (s : List Bind) (t : List Cell) : List Cell × Bool := if Oks s ∧ isTerm t = true then (if 40 < (full s t).length then ([], false) else (full s t, true)) else ([], false)
def subGet (s : List Bind) (v : Int) : List Cell := (get s v).getD []

/-! ### sizes -/
theorem Walk.small {s : List Bind} (hs : ∀ b ∈ s, b.f1.length ≤ 40) {l u : List Cell} (h : Walk s l u) : l.length ≤ 40 → u.length ≤ 40 := by
  induction h with
  | stop _ => exact id
  | go _ hg _ ih =>
    intro _
    obtain ⟨b, hb, _, rfl⟩ := get_mem hg
    exact ih (hs b hb)

theorem cut_small {n : Nat} {l : List Cell} (h : Forest n l) {x : List Cell} (hx : x ∈ cut n l) : x.length ≤ l.length := by
  have h1 := (cut_spec h).1
  have : x.length ≤ (cut n l).flatten.length := (List.sublist_flatten_of_mem hx).length_le
  rwa [h1] at this

theorem Uni.small {s : List Bind} {ps : Pairs} {r : Option (List Bind)} (h : Uni s ps r) : Good s → OkP ps → (∀ b ∈ s, b.f1.length ≤ 40) → (∀ p ∈ ps, p.1.length ≤ 40 ∧ p.2.length ≤ 40) → ∀ x, r = some x → ∀ b ∈ x, b.f1.length ≤ 40 := by
  induction h with
  | done => intro _ _ hs _ x e; cases e; exact hs
  | same _ _ _ _ ih => intro g ho hs hp; exact ih g (okP_cons.1 ho).2 hs (fun p h => hp p (by simp [h]))
  | @bindL s a b c d x y ps r ha hb hc hcd hr _ ih =>
    intro g ho hs hp
    obtain ⟨⟨a1, a2, b1, b2⟩, ho⟩ := okP_cons.1 ho
    obtain ⟨w1, w2, _, _, w5⟩ := ha.spec g a1 a2
    obtain ⟨z1, z2, _, _, _⟩ := hb.spec g b1 b2
    have hok := (okl_cons.1 w2).1
    obtain rfl := w1.var hc
    refine ih (g.bind ?_ (w5 c [] rfl hc) z1 z2 hr) ho ?_ (fun p h => hp p (by simp [h]))
    · exact var_range hok hc
    · intro e he
      rcases List.mem_append.1 he with he | he
      · exact hs e he
      · rw [List.mem_singleton.1 he]; exact hb.small hs (hp (a, b) (by simp)).2
  | occL => intro _ _ _ _ x e; cases e
  | @bindR s a b c d x y ps r ha hb hc hd hr _ ih =>
    intro g ho hs hp
    obtain ⟨⟨a1, a2, b1, b2⟩, ho⟩ := okP_cons.1 ho
    obtain ⟨w1, w2, _, _, _⟩ := ha.spec g a1 a2
    obtain ⟨z1, z2, _, _, z5⟩ := hb.spec g b1 b2
    have hok := (okl_cons.1 z2).1
    obtain rfl := z1.var hd
    refine ih (g.bind ?_ (z5 d [] rfl hd) w1 w2 hr) ho ?_ (fun p h => hp p (by simp [h]))
    · exact var_range hok hd
    · intro e he
      rcases List.mem_append.1 he with he | he
      · exact hs e he
      · rw [List.mem_singleton.1 he]; exact ha.small hs (hp (a, b) (by simp)).1
  | occR => intro _ _ _ _ x e; cases e
  | clash => intro _ _ _ _ x e; cases e
  | @args s a b c x y ps r ha hb hc _ ih =>
    intro g ho hs hp
    obtain ⟨⟨a1, a2, b1, b2⟩, ho⟩ := okP_cons.1 ho
    obtain ⟨w1, w2, _, _, _⟩ := ha.spec g a1 a2
    obtain ⟨z1, z2, _, _, _⟩ := hb.spec g b1 b2
    have hx := w1.rest
    have hy := z1.rest
    have lx := ha.small hs (hp (a, b) (by simp)).1
    have ly := hb.small hs (hp (a, b) (by simp)).2
    simp only [List.length_cons] at lx ly
    refine ih g (okP_append.2 ⟨okP_zip hx hy (okl_cons.1 w2).2 (okl_cons.1 z2).2, ho⟩) hs (fun p h => ?_)
    rcases List.mem_append.1 h with h | h
    · have := List.of_mem_zip h
      have q1 := cut_small hx this.1
      have q2 := cut_small hy this.2
      exact ⟨by omega, by omega⟩
    · exact hp p (by simp [h])

/-! ### what is told of a pair -/
theorem okP_one {a b : List Cell} (ha : isTerm a = true) (hb : isTerm b = true) : OkP [(a, b)] := by
  obtain ⟨_, _, a1, a2⟩ := isTerm_iff'.1 ha
  obtain ⟨_, _, b1, b2⟩ := isTerm_iff'.1 hb
  exact okP_cons.2 ⟨⟨a2, a1, b2, b1⟩, okP_nil⟩

theorem full_nil_s {l : List Cell} (h : okl l) : full [] l = l := (Full.same (s := []) (l := l) (fun _ _ _ => rfl)).eq Good.nil h

/-- θ makes a and b the same, and all that is bound -/
def Both (θ : Int → List Cell) (s : List Bind) (a b : List Cell) : Prop := Solves θ s ∧ app θ a = app θ b

structure Met (s : List Bind) (a b : List Cell) (x : List Bind) : Prop where
  oks : Oks x
  ext : ∃ e, x = s ++ e
  iff : ∀ θ, Wf θ → (Solves θ x ↔ Both θ s a b)
  fits : (full x a).length ≤ 40

theorem meet_cases {s : List Bind} {a b : List Cell} (hs : Oks s) (ha : isTerm a = true) (hb : isTerm b = true) :
    (meet s a b = ([], 3)) ∨ (meet s a b = ([], 2) ∧ (full s a).length ≤ 40 ∧ (full s b).length ≤ 40 ∧ ∀ θ, Wf θ → ¬ Both θ s a b) ∨ (∃ x, meet s a b = (x, 1) ∧ Met s a b x ∧ (full s a).length ≤ 40 ∧ (full s b).length ≤ 40) := by
  have hu := uni_spec hs.good (okP_one ha hb)
  have hr := hu.sound hs.good (okP_one ha hb)
  have hsm := hu.small hs.good (okP_one ha hb) hs.small (by
    intro p hp
    rw [List.mem_singleton.1 hp]
    exact ⟨(isTerm_iff'.1 ha).2.1, (isTerm_iff'.1 hb).2.1⟩)
  unfold meet
  by_cases hbig : 40 < (full s a).length ∨ 40 < (full s b).length
  · rw [if_pos hbig]; exact .inl rfl
  · rw [if_neg hbig]
    cases he : uni s [(a, b)] with
    | none =>
      rw [he] at hr
      refine .inr (.inl ⟨rfl, by omega, by omega, fun θ hw h => hr θ hw h.1 (fun p hp => ?_)⟩)
      rw [List.mem_singleton.1 hp]; exact h.2
    | some x =>
      rw [he] at hr hsm
      obtain ⟨h1, h2, h3⟩ := hr
      by_cases hf : 40 < (full x a).length
      · left; simp only [if_pos hf]
      · simp only [if_neg hf]
        refine .inr (.inr ⟨x, rfl, ⟨⟨h1, hsm x rfl⟩, h2, fun θ hw => (h3 θ hw).trans ?_, by omega⟩, by omega, by omega⟩)
        simp [Both]

theorem Met.same {s x : List Bind} {a b : List Cell} (h : Met s a b x) : full x a = full x b :=
  ((h.iff (sig x) (sig_wf h.oks.good)).1 (sig_solves h.oks.good)).2
theorem Met.old {s x : List Bind} {a b : List Cell} (h : Met s a b x) : Solves (sig x) s :=
  ((h.iff (sig x) (sig_wf h.oks.good)).1 (sig_solves h.oks.good)).1

/-- a solution of the one and of the other: what is full by the one comes to what is full by the other -/
theorem full_over {x y : List Bind} (hx : Good x) (hy : Good y) (h : Solves (sig y) x) {l : List Cell} (hl : okl l) : app (sig y) (full x l) = full y l := solve_full hx h hl
theorem full_len {x y : List Bind} (hx : Good x) (hy : Good y) (h : Solves (sig y) x) {l : List Cell} (hl : okl l) : (full x l).length ≤ (full y l).length := by
  rw [← full_over hx hy h hl]; exact app_len (sig_wf hy) _
theorem full_canon {x y : List Bind} (hx : Good x) (hy : Good y) (h : Solves (sig y) x) (h' : Solves (sig x) y) {l : List Cell} (hl : okl l) : canon (full x l) = canon (full y l) :=
  variants (sig_wf hx) (sig_wf hy) (full_okl hy hl) (full_okl hx hl) (full_over hy hx h' hl) (full_over hx hy h hl)

theorem full_term {s : List Bind} (hs : Good s) {t : List Cell} (ht : isTerm t = true) (h : (full s t).length ≤ 40) : isTerm (full s t) = true := by
  obtain ⟨_, _, h3, h4⟩ := isTerm_iff'.1 ht
  have := full_forest hs h4
  exact isTerm_iff'.2 ⟨this.len, h, full_okl hs h3, this⟩

theorem subUnify_ok {s : List Bind} {a b : List Cell} (h : Oks s ∧ isTerm a = true ∧ isTerm b = true) : subUnify s a b = meet s a b := if_pos h
theorem subUnify_no {s : List Bind} {a b : List Cell} (h : ¬ (Oks s ∧ isTerm a = true ∧ isTerm b = true)) : subUnify s a b = ([], 4) := if_neg h

/-- what SubUnify tells: wrong, too big, apart, or done -/
theorem subUnify_cases (s : List Bind) (a b : List Cell) :
    (¬ (Oks s ∧ isTerm a = true ∧ isTerm b = true) ∧ subUnify s a b = ([], 4)) ∨
    ((Oks s ∧ isTerm a = true ∧ isTerm b = true) ∧ (subUnify s a b = ([], 3) ∨ (subUnify s a b = ([], 2) ∧ (full s a).length ≤ 40 ∧ (full s b).length ≤ 40 ∧ ∀ θ, Wf θ → ¬ Both θ s a b) ∨
      ∃ x, subUnify s a b = (x, 1) ∧ Met s a b x ∧ (full s a).length ≤ 40 ∧ (full s b).length ≤ 40)) := by
  by_cases h : Oks s ∧ isTerm a = true ∧ isTerm b = true
  · rw [subUnify_ok h]; exact .inr ⟨h, meet_cases h.1 h.2.1 h.2.2⟩
  · exact .inl ⟨h, subUnify_no h⟩

theorem subUnify_done {s x : List Bind} {a b : List Cell} (h : subUnify s a b = (x, 1)) : (Oks s ∧ isTerm a = true ∧ isTerm b = true) ∧ Met s a b x ∧ (full s a).length ≤ 40 ∧ (full s b).length ≤ 40 := by
  rcases subUnify_cases s a b with ⟨_, e⟩ | ⟨h0, e | ⟨e, _⟩ | ⟨y, e, m, f⟩⟩
  · rw [e] at h; exact absurd (show (_ : Int) = _ from congrArg Prod.snd h) (by simp)
  · rw [e] at h; exact absurd (show (_ : Int) = _ from congrArg Prod.snd h) (by simp)
  · rw [e] at h; exact absurd (show (_ : Int) = _ from congrArg Prod.snd h) (by simp)
  · rw [e] at h; obtain rfl := congrArg Prod.fst h; exact ⟨h0, m, f⟩
theorem subUnify_code (s : List Bind) (a b : List Cell) : (subUnify s a b).2 = 1 ∨ ((subUnify s a b).1 = [] ∧ ((subUnify s a b).2 = 2 ∨ (subUnify s a b).2 = 3 ∨ (subUnify s a b).2 = 4)) := by
  rcases subUnify_cases s a b with ⟨_, e⟩ | ⟨h0, e | ⟨e, _⟩ | ⟨y, e, m, f⟩⟩ <;> rw [e] <;> simp
theorem subUnify_wrong {s : List Bind} {a b : List Cell} : (subUnify s a b).2 = 4 ↔ ¬ (Oks s ∧ isTerm a = true ∧ isTerm b = true) := by
  rcases subUnify_cases s a b with ⟨h, e⟩ | ⟨h0, e | ⟨e, _⟩ | ⟨y, e, m, f⟩⟩
  · rw [e]; simp [h]
  all_goals rw [e]; simp [h0]

theorem subFull_ok {s : List Bind} {t : List Cell} (h : Oks s ∧ isTerm t = true) (hl : (full s t).length ≤ 40) : subFull s t = (full s t, true) := by
  unfold subFull; rw [if_pos h, if_neg (by omega)]
theorem subFull_cases (s : List Bind) (t : List Cell) : (subFull s t = ([], false) ∧ (¬ (Oks s ∧ isTerm t = true) ∨ 40 < (full s t).length)) ∨ (subFull s t = (full s t, true) ∧ Oks s ∧ isTerm t = true ∧ (full s t).length ≤ 40) := by
  unfold subFull
  by_cases h : Oks s ∧ isTerm t = true
  · rw [if_pos h]
    by_cases hl : 40 < (full s t).length
    · rw [if_pos hl]; exact .inl ⟨rfl, .inr hl⟩
    · rw [if_neg hl]; exact .inr ⟨rfl, h.1, h.2, by omega⟩
  · rw [if_neg h]; exact .inl ⟨rfl, .inl h⟩

/-! ### the laws -/
theorem law_unify {s x : List Bind} {a b : List Cell} (h : subUnify s a b = (x, 1)) : Oks x ∧ s.length ≤ x.length ∧ x.take s.length = s ∧ subFull x a = (full x a, true) ∧ subFull x b = (full x a, true) := by
  obtain ⟨⟨_, ha, hb⟩, m, _, _⟩ := subUnify_done h
  obtain ⟨e, rfl⟩ := m.ext
  refine ⟨m.oks, by simp, by simp, subFull_ok ⟨m.oks, ha⟩ m.fits, ?_⟩
  rw [subFull_ok ⟨m.oks, hb⟩ (by rw [← m.same]; exact m.fits), ← m.same]

theorem law_most {s u : List Bind} {a b : List Cell} (h : subUnify s a b = (u, 1)) : ∃ m, subUnify [] a b = (m, 1) ∧ subFull m a = (full m a, true) ∧ subFull u (full m a) = (full u a, true) ∧ subFull u a = (full u a, true) := by
  obtain ⟨⟨hs, ha, hb⟩, m, _, _⟩ := subUnify_done h
  have hsol := (m.iff (sig u) (sig_wf m.oks.good)).1 (sig_solves m.oks.good)
  have oa := (isTerm_iff'.1 ha).2.2.1
  have ob := (isTerm_iff'.1 hb).2.2.1
  have hu := uni_spec Good.nil (okP_one ha hb)
  have hr := hu.sound Good.nil (okP_one ha hb)
  rcases subUnify_cases [] a b with ⟨hn, _⟩ | ⟨_, e | ⟨e, _, _, hno⟩ | ⟨x, e, mx, _⟩⟩
  · exact absurd ⟨Oks.nil, ha, hb⟩ hn
  · exfalso
    rw [subUnify_ok ⟨Oks.nil, ha, hb⟩] at e
    unfold meet at e
    rw [full_nil_s oa, full_nil_s ob, if_neg (by have := (isTerm_iff'.1 ha).2.1; have := (isTerm_iff'.1 hb).2.1; omega)] at e
    cases he : uni [] [(a, b)] with
    | none => rw [he] at e; exact absurd (show (_ : Int) = _ from congrArg Prod.snd e) (by simp)
    | some x =>
      rw [he] at e hr
      obtain ⟨h1, h2, h3⟩ := hr
      have hx : Solves (sig u) x := (h3 _ (sig_wf m.oks.good)).2 ⟨(by intro b hb; cases hb), by intro p hp; rw [List.mem_singleton.1 hp]; exact hsol.2⟩
      have := full_len h1 m.oks.good hx oa
      have := m.fits
      simp only at e
      rw [if_neg (by omega)] at e
      exact absurd (show (_ : Int) = _ from congrArg Prod.snd e) (by simp)
  · exact absurd ⟨(by intro b hb; cases hb), hsol.2⟩ (hno _ (sig_wf m.oks.good))
  · have hx : Solves (sig u) x := (mx.iff _ (sig_wf m.oks.good)).2 ⟨(by intro b hb; cases hb), hsol.2⟩
    refine ⟨x, e, subFull_ok ⟨mx.oks, ha⟩ mx.fits, ?_, subFull_ok ⟨m.oks, ha⟩ m.fits⟩
    have e2 : full u (full x a) = full u a := solve_full mx.oks.good hx oa
    rw [subFull_ok ⟨m.oks, full_term mx.oks.good ha mx.fits⟩ (by rw [e2]; exact m.fits), e2]

theorem law_self {s : List Bind} {a : List Cell} (hs : Oks s) (ha : isTerm a = true) (hf : (full s a).length ≤ 40) : subUnify s a a = (s, 1) := by
  rw [subUnify_ok ⟨hs, ha, ha⟩]
  have hu := uni_spec hs.good (okP_one ha ha)
  have := hu.again hs.good (okP_one ha ha) (by intro p hp; rw [List.mem_singleton.1 hp])
  unfold meet
  rw [if_neg (by omega), this]
  simp only
  rw [if_neg (by omega)]

theorem law_again {s x : List Bind} {a b : List Cell} (h : subUnify s a b = (x, 1)) : subUnify x b a = (x, 1) := by
  obtain ⟨⟨_, ha, hb⟩, m, _, _⟩ := subUnify_done h
  rw [subUnify_ok ⟨m.oks, hb, ha⟩]
  have hu := uni_spec m.oks.good (okP_one hb ha)
  have := hu.again m.oks.good (okP_one hb ha) (by intro p hp; rw [List.mem_singleton.1 hp]; exact m.same.symm)
  have f := m.fits
  have f' : (full x b).length ≤ 40 := by rw [← m.same]; exact f
  unfold meet
  rw [if_neg (by omega), this]
  simp only
  rw [if_neg (by omega)]

/-- two that are done tell the same of every θ: neither is apart or too big alone -/
theorem law_swap (s : List Bind) (a b : List Cell) : (subUnify s a b).2 = (subUnify s b a).2 ∧
    ∀ x y, subUnify s a b = (x, 1) → subUnify s b a = (y, 1) → canon (full x a) = canon (full y a) ∧ subFull x a = (full x a, true) ∧ subFull y a = (full y a, true) := by
  have comm : ∀ {θ : Int → List Cell}, Both θ s a b ↔ Both θ s b a := ⟨fun h => ⟨h.1, h.2.symm⟩, fun h => ⟨h.1, h.2.symm⟩⟩
  by_cases h : Oks s ∧ isTerm a = true ∧ isTerm b = true
  · have h' : Oks s ∧ isTerm b = true ∧ isTerm a = true := ⟨h.1, h.2.2, h.2.1⟩
    have oa := (isTerm_iff'.1 h.2.1).2.2.1
    have ob := (isTerm_iff'.1 h.2.2).2.2.1
    have hu := uni_spec h.1.good (okP_one h.2.1 h.2.2)
    have hr := hu.sound h.1.good (okP_one h.2.1 h.2.2)
    have hu' := uni_spec h.1.good (okP_one h.2.2 h.2.1)
    have hr' := hu'.sound h.1.good (okP_one h.2.2 h.2.1)
    refine ⟨?_, ?_⟩
    · rw [subUnify_ok h, subUnify_ok h']
      unfold meet
      by_cases hbig : 40 < (full s a).length ∨ 40 < (full s b).length
      · rw [if_pos hbig, if_pos (by omega)]
      · rw [if_neg hbig, if_neg (by omega)]
        cases e : uni s [(a, b)] with
        | none =>
          cases e' : uni s [(b, a)] with
          | none => rfl
          | some y =>
            exfalso
            rw [e] at hr
            rw [e'] at hr'
            obtain ⟨h1, _, h3⟩ := hr'
            have := (h3 _ (sig_wf h1)).1 (sig_solves h1)
            exact hr _ (sig_wf h1) this.1 (by intro p hp; rw [List.mem_singleton.1 hp]; exact (this.2 (b, a) (by simp)).symm)
        | some x =>
          rw [e] at hr
          obtain ⟨h1, _, h3⟩ := hr
          cases e' : uni s [(b, a)] with
          | none =>
            exfalso
            rw [e'] at hr'
            have := (h3 _ (sig_wf h1)).1 (sig_solves h1)
            exact hr' _ (sig_wf h1) this.1 (by intro p hp; rw [List.mem_singleton.1 hp]; exact (this.2 (a, b) (by simp)).symm)
          | some y =>
            rw [e'] at hr'
            obtain ⟨k1, _, k3⟩ := hr'
            have sxy : Solves (sig x) y := (k3 _ (sig_wf h1)).2 (by
              have := (h3 _ (sig_wf h1)).1 (sig_solves h1)
              exact ⟨this.1, by intro p hp; rw [List.mem_singleton.1 hp]; exact (this.2 (a, b) (by simp)).symm⟩)
            have syx : Solves (sig y) x := (h3 _ (sig_wf k1)).2 (by
              have := (k3 _ (sig_wf k1)).1 (sig_solves k1)
              exact ⟨this.1, by intro p hp; rw [List.mem_singleton.1 hp]; exact (this.2 (b, a) (by simp)).symm⟩)
            have l1 := full_len h1 k1 syx oa
            have l2 := full_len k1 h1 sxy oa
            have q : full y b = full y a := ((k3 _ (sig_wf k1)).1 (sig_solves k1)).2 (b, a) (by simp)
            simp only
            by_cases hf : 40 < (full x a).length
            · rw [if_pos hf, if_pos (by rw [q]; omega)]
            · rw [if_neg hf, if_neg (by rw [q]; omega)]
    · intro x y ex ey
      obtain ⟨_, mx, _⟩ := subUnify_done ex
      obtain ⟨_, my, _⟩ := subUnify_done ey
      have sxy : Solves (sig x) y := (my.iff _ (sig_wf mx.oks.good)).2 (comm.1 ((mx.iff _ (sig_wf mx.oks.good)).1 (sig_solves mx.oks.good)))
      have syx : Solves (sig y) x := (mx.iff _ (sig_wf my.oks.good)).2 (comm.2 ((my.iff _ (sig_wf my.oks.good)).1 (sig_solves my.oks.good)))
      exact ⟨full_canon mx.oks.good my.oks.good syx sxy oa, subFull_ok ⟨mx.oks, h.2.1⟩ mx.fits, subFull_ok ⟨my.oks, h.2.1⟩ (by rw [← my.same]; exact my.fits)⟩
  · have h' : ¬ (Oks s ∧ isTerm b = true ∧ isTerm a = true) := fun k => h ⟨k.1, k.2.2, k.2.1⟩
    rw [subUnify_no h, subUnify_no h']
    exact ⟨rfl, fun x y e => absurd (show (_ : Int) = _ from congrArg Prod.snd e) (by simp)⟩

theorem law_apart {s : List Bind} {a b : List Cell} (h : (subUnify [] a b).2 = 2) : (subUnify s a b).2 ≠ 1 := by
  intro e
  obtain ⟨m, hm, _⟩ := law_most (s := s) (u := (subUnify s a b).1) (a := a) (b := b) (Prod.ext rfl e)
  rw [hm] at h
  exact absurd (show (1 : Int) = 2 from h) (by decide)

theorem law_full {s : List Bind} {t x : List Cell} (h : subFull s t = (x, true)) : subFull s x = (x, true) ∧ isTerm x = true ∧ (∀ v ∈ frees x, subGet s v = []) ∧
    ∀ b ∈ s, subFull s [varc b.f0] = subFull s b.f1 ∧ subGet s b.f0 = b.f1 := by
  rcases subFull_cases s t with ⟨e, _⟩ | ⟨e, hs, ht, hl⟩
  · rw [e] at h; exact absurd (show false = true from congrArg Prod.snd h) (by decide)
  · rw [e] at h
    obtain rfl := congrArg Prod.fst h
    have ot := (isTerm_iff'.1 ht).2.2.1
    have hx := full_term hs.good ht hl
    have free := (full_full hs.good ot).free
    have e2 : full s (full s t) = full s t := (Full.same free).eq hs.good (full_okl hs.good ot)
    refine ⟨by rw [subFull_ok ⟨hs, hx⟩ (by rw [e2]; exact hl), e2], hx, fun v hv => ?_, fun b hb => ?_⟩
    · obtain ⟨c, hc, h1, rfl⟩ := mem_frees.1 hv
      unfold subGet
      rw [free c hc h1]; rfl
    · have hg := get_of_mem hs.good.nodup hb
      have hv := isTerm_var (hs.good.range b hb)
      have hbt := hs.isTerm hb
      have e3 : full s [varc b.f0] = full s b.f1 := by
        have h1 : Full s [varc b.f0] (full s b.f1 ++ []) := .sub rfl hg (full_full hs.good (hs.good.term b hb).2) .nil
        rw [List.append_nil] at h1
        exact h1.eq hs.good (isTerm_iff'.1 hv).2.2.1
      refine ⟨?_, by unfold subGet; rw [hg]; rfl⟩
      have q : ∀ u, isTerm u = true → subFull s u = if 40 < (full s u).length then ([], false) else (full s u, true) := fun u hu => by unfold subFull; rw [if_pos ⟨hs, hu⟩]
      rw [q _ hv, q _ hbt, e3]

theorem law_ok {s : List Bind} (h : Oks s) (k : Nat) (hk : k < s.length) : Oks (s.take k) ∧ ¬ Oks (s ++ [s[k]]) := by
  refine ⟨?_, fun h2 => ?_⟩
  · have : s = s.take k ++ s.drop k := (List.take_append_drop k s).symm
    rw [this] at h; exact h.pre
  · have := h2.good.nodup
    rw [List.map_append, List.nodup_append] at this
    exact this.2.2 s[k].f0 (List.mem_map_of_mem (List.getElem_mem hk)) s[k].f0 (by simp) rfl

theorem frees_nil_iff {t : List Cell} : frees t = [] ↔ ∀ c ∈ t, c.f0 ≠ 1 := by
  constructor
  · intro h c hc hv
    have : c.f1 ∈ frees t := mem_frees.2 ⟨c, hc, hv, rfl⟩
    rw [h] at this; cases this
  · intro h
    cases e : frees t with
    | nil => rfl
    | cons v l =>
      exfalso
      obtain ⟨c, hc, hv, _⟩ := mem_frees.1 (show v ∈ frees t by rw [e]; simp)
      exact h c hc hv
theorem full_ground {s : List Bind} (hs : Good s) {t : List Cell} (ho : okl t) (h : frees t = []) : full s t = t :=
  (Full.same (fun c hc hv => absurd hv (frees_nil_iff.1 h c hc))).eq hs ho

theorem reach_nil {t : List Cell} {v : Int} : Reach [] t v ↔ v ∈ frees t := by
  constructor
  · intro h
    cases h with
    | here h1 h2 => exact mem_frees.2 ⟨_, h1, h2, rfl⟩
    | step _ _ h3 _ => cases h3
  · intro h
    obtain ⟨c, hc, hv, rfl⟩ := mem_frees.1 h
    exact .here hc hv

def around (v : Int) : List Cell := [⟨3, 1, ⟨#[102]⟩⟩, varc v]
theorem around_term {v : Int} (h : 0 ≤ v ∧ v ≤ 99999) : isTerm (around v) = true := by
  refine isTerm_iff'.2 ⟨by simp [around], by simp [around], ?_, ?_⟩
  · intro c hc
    simp only [around, List.mem_cons, List.not_mem_nil, or_false] at hc
    rcases hc with rfl | rfl
    · decide
    · exact (isTerm_iff'.1 (isTerm_var h)).2.2.1 _ (by simp)
  · exact Forest.cons_iff.2 (Forest.cons_iff.2 (by rw [ar_var (show (varc v).f0 = 1 from rfl)]; exact Forest.nil))

theorem law_var {t : List Cell} {v : Int} (ht : isTerm t = true) (hv : 0 ≤ v ∧ v ≤ 99999) (hf : v ∉ frees t) : subUnify [] [varc v] t = ([⟨v, t⟩], 1) := by
  have ho := (isTerm_iff'.1 ht).2.2.1
  have hx := isTerm_var hv
  have hxo := (isTerm_iff'.1 hx).2.2.1
  rw [subUnify_ok ⟨Oks.nil, hx, ht⟩]
  have hr : ¬ Reach [] t v := fun h => hf (reach_nil.1 h)
  cases t with
  | nil => cases ht
  | cons d y =>
    have hu : Uni [] [([varc v], d :: y)] (some ([] ++ [⟨(varc v).f1, d :: y⟩])) := by
      refine Uni.bindL (.stop fun _ => rfl) (.stop fun _ => rfl) rfl ?_ hr .done
      rintro rfl
      exact hf (mem_frees.2 ⟨_, List.mem_cons_self .., rfl, rfl⟩)
    unfold meet
    rw [full_nil_s hxo, full_nil_s ho, if_neg (by have := (isTerm_iff'.1 ht).2.1; simp at this ⊢; omega), uni_eq hu]
    have hg : Good ([] ++ [⟨(varc v).f1, d :: y⟩]) := Good.nil.bind hv rfl (isTerm_iff'.1 ht).2.2.2 ho hr
    have hfl : Full ([] ++ [⟨(varc v).f1, d :: y⟩]) [varc v] ((d :: y) ++ []) := by
      refine .sub rfl (by simp [get, varc]) (Full.same ?_) .nil
      intro c hc h1
      unfold get
      rw [List.nil_append, List.find?_cons]
      have : ((varc v).f1 == c.f1) = false := by
        rw [beq_eq_false_iff_ne]
        intro e
        exact hf (mem_frees.2 ⟨c, hc, h1, e.symm⟩)
      rw [this]; rfl
    rw [List.append_nil] at hfl
    simp only
    rw [hfl.eq hg hxo, if_neg (by have := (isTerm_iff'.1 ht).2.1; omega)]
    rfl

theorem law_around {v : Int} (hv : 0 ≤ v ∧ v ≤ 99999) : subUnify [] [varc v] (around v) = ([], 2) := by
  have ha := around_term hv
  have ho := (isTerm_iff'.1 ha).2.2.1
  have hx := isTerm_var hv
  have hxo := (isTerm_iff'.1 hx).2.2.1
  rw [subUnify_ok ⟨Oks.nil, hx, ha⟩]
  have hu : Uni [] [([varc v], around v)] none := by
    refine Uni.occL (c := varc v) (d := ⟨3, 1, ⟨#[102]⟩⟩) (.stop fun _ => rfl) (.stop fun _ => rfl) rfl ?_ ?_
    · intro e; exact absurd (show (1 : Int) = 3 from congrArg Cell.f0 e) (by decide)
    · exact .here (c := varc v) (by simp) rfl
  unfold meet
  rw [full_nil_s hxo, full_nil_s ho, if_neg (by simp [around]), uni_eq hu]

theorem law_same {v : Int} (hv : 0 ≤ v ∧ v ≤ 99999) : subUnify [] [varc v] [varc v] = ([], 1) :=
  law_self Oks.nil (isTerm_var hv) (by rw [full_nil_s (isTerm_iff'.1 (isTerm_var hv)).2.2.1]; simp)

theorem law_ground {a b : List Cell} (ha : isTerm a = true) (hb : isTerm b = true) (hg : frees b = []) :
    (frees a = [] → ((subUnify [] a b).2 = 1 ↔ a = b) ∧ (subUnify [] a b).1 = []) ∧ ((subUnify [] a b).2 ≠ 1 → (subUnify [] a b).2 = 2 ∨ (subUnify [] a b).2 = 3) ∧ ∀ x, subUnify [] a b = (x, 1) → subFull x a = (b, true) := by
  have oa := (isTerm_iff'.1 ha).2.2.1
  have ob := (isTerm_iff'.1 hb).2.2.1
  refine ⟨fun hga => ?_, fun h => ?_, fun x h => ?_⟩
  · by_cases e : a = b
    · subst e
      rw [law_self Oks.nil ha (by rw [full_nil_s oa]; exact (isTerm_iff'.1 ha).2.1)]
      simp
    · have hne : (subUnify [] a b).2 ≠ 1 := by
        intro h1
        obtain ⟨_, m, _⟩ := subUnify_done (x := (subUnify [] a b).1) (s := []) (a := a) (b := b) (Prod.ext rfl h1)
        have := m.same
        rw [full_ground m.oks.good oa hga, full_ground m.oks.good ob hg] at this
        exact e this
      refine ⟨⟨fun h => absurd h hne, fun h => absurd h e⟩, ?_⟩
      rcases subUnify_code [] a b with h | h
      · exact absurd h hne
      · exact h.1
  · rcases subUnify_code [] a b with h1 | ⟨_, h1 | h1 | h1⟩
    · exact absurd h1 h
    · exact .inl h1
    · exact .inr h1
    · exact absurd ⟨Oks.nil, ha, hb⟩ (subUnify_wrong.1 h1)
  · obtain ⟨_, m, _⟩ := subUnify_done h
    have e := m.same
    rw [full_ground m.oks.good ob hg] at e
    have hl := m.fits
    rw [← e, subFull_ok ⟨m.oks, ha⟩ hl]

/-- of a code that is not done, and neither wrong nor too big -/
theorem not_done {s : List Bind} {a b : List Cell} (h : Oks s ∧ isTerm a = true ∧ isTerm b = true) (h1 : (subUnify s a b).2 ≠ 1) (h3 : (subUnify s a b).2 ≠ 3) : subUnify s a b = ([], 2) ∧ ∀ θ, Wf θ → ¬ Both θ s a b := by
  rcases subUnify_cases s a b with ⟨hn, _⟩ | ⟨_, e | ⟨e, _, _, hno⟩ | ⟨x, e, _⟩⟩
  · exact absurd h hn
  · rw [e] at h3; exact absurd rfl h3
  · exact ⟨e, hno⟩
  · rw [e] at h1; exact absurd rfl h1

theorem two_done {a b c d : List Cell} (ha : isTerm a = true) (hb : isTerm b = true) (hc : isTerm c = true) (hd : isTerm d = true) {x y : List Bind} (h1 : subUnify [] a b = (x, 1)) (h2 : subUnify x c d = (y, 1)) :
    Oks y ∧ ∀ θ, Wf θ → (Solves θ y ↔ app θ a = app θ b ∧ app θ c = app θ d) := by
  obtain ⟨_, m1, _⟩ := subUnify_done h1
  obtain ⟨_, m2, _⟩ := subUnify_done h2
  refine ⟨m2.oks, fun θ hw => ?_⟩
  rw [m2.iff θ hw]
  unfold Both
  rw [m1.iff θ hw]
  unfold Both
  constructor
  · rintro ⟨⟨_, h⟩, h'⟩; exact ⟨h, h'⟩
  · rintro ⟨h, h'⟩; exact ⟨⟨(by intro b hb; cases hb), h⟩, h'⟩

theorem two_half {a b c d : List Cell} (ha : isTerm a = true) (hb : isTerm b = true) (hc : isTerm c = true) (hd : isTerm d = true) (h1 : (subUnify [] a b).2 = 1) (h2 : (subUnify (subUnify [] a b).1 c d).2 = 1)
    (h : ¬ ((subUnify [] c d).2 = 1 ∧ (subUnify (subUnify [] c d).1 a b).2 = 1)) : (subUnify [] c d).2 = 3 ∨ (subUnify (subUnify [] c d).1 a b).2 = 3 := by
  obtain ⟨ho, hi⟩ := two_done ha hb hc hd (x := (subUnify [] a b).1) (y := (subUnify (subUnify [] a b).1 c d).1) (Prod.ext rfl h1) (Prod.ext rfl h2)
  have hsol := (hi _ (sig_wf ho.good)).1 (sig_solves ho.good)
  by_cases h3 : (subUnify [] c d).2 = 3
  · exact .inl h3
  · by_cases h31 : (subUnify [] c d).2 = 1
    · by_cases h4 : (subUnify (subUnify [] c d).1 a b).2 = 3
      · exact .inr h4
      · exfalso
        obtain ⟨_, m, _⟩ := subUnify_done (x := (subUnify [] c d).1) (Prod.ext rfl h31)
        obtain ⟨_, hno⟩ := not_done ⟨m.oks, ha, hb⟩ (fun e => h ⟨h31, e⟩) h4
        exact hno _ (sig_wf ho.good) ⟨(m.iff _ (sig_wf ho.good)).2 ⟨(by intro b hb; cases hb), hsol.2⟩, hsol.1⟩
    · exfalso
      obtain ⟨_, hno⟩ := not_done ⟨Oks.nil, hc, hd⟩ h31 h3
      exact hno _ (sig_wf ho.good) ⟨(by intro b hb; cases hb), hsol.2⟩

theorem two_both {a b c d : List Cell} (ha : isTerm a = true) (hb : isTerm b = true) (hc : isTerm c = true) (hd : isTerm d = true) {x y x' y' : List Bind} (h1 : subUnify [] a b = (x, 1)) (h2 : subUnify x c d = (y, 1))
    (k1 : subUnify [] c d = (x', 1)) (k2 : subUnify x' a b = (y', 1)) {l : List Cell} (hl : okl l) : canon (full y l) = canon (full y' l) := by
  obtain ⟨ho, hi⟩ := two_done ha hb hc hd h1 h2
  obtain ⟨ho', hi'⟩ := two_done hc hd ha hb k1 k2
  have e1 := (hi _ (sig_wf ho.good)).1 (sig_solves ho.good)
  have e2 := (hi' _ (sig_wf ho'.good)).1 (sig_solves ho'.good)
  exact full_canon ho.good ho'.good ((hi _ (sig_wf ho'.good)).2 ⟨e2.2, e2.1⟩) ((hi' _ (sig_wf ho.good)).2 ⟨e1.2, e1.1⟩) hl

/-- pairs that are done one behind the other -/
inductive Chain (s : List Bind) : Pairs → List Bind → Prop
  | nil : Chain s [] s
  | snoc {ps : Pairs} {y z : List Bind} {p : List Cell × List Cell} : Chain s ps y → subUnify y p.1 p.2 = (z, 1) → Chain s (ps ++ [p]) z

theorem Chain.spec {s : List Bind} (hs : Oks s) {ps : Pairs} {y : List Bind} (h : Chain s ps y) : Oks y ∧ ∀ θ, Wf θ → (Solves θ y ↔ Solves θ s ∧ ∀ p ∈ ps, app θ p.1 = app θ p.2) := by
  induction h with
  | nil => exact ⟨hs, fun θ _ => by simp⟩
  | @snoc ps y z p _ e ih =>
    obtain ⟨_, m, _⟩ := subUnify_done e
    refine ⟨m.oks, fun θ hw => ?_⟩
    rw [m.iff θ hw]
    unfold Both
    rw [ih.2 θ hw]
    constructor
    · rintro ⟨⟨h1, h2⟩, h3⟩
      refine ⟨h1, fun q hq => ?_⟩
      rcases List.mem_append.1 hq with hq | hq
      · exact h2 q hq
      · rw [List.mem_singleton.1 hq]; exact h3
    · rintro ⟨h1, h2⟩
      exact ⟨⟨h1, fun q hq => h2 q (by simp [hq])⟩, h2 p (by simp)⟩

theorem law_args_all {s : List Bind} {c : Cell} {A B : List Cell} (hs : Oks s) (ha : isTerm (c :: A) = true) (hb : isTerm (c :: B) = true) (hc : c.f0 ≠ 1) {y : List Bind} (h : Chain s ((cut (ar c) A).zip (cut (ar c) B)) y)
    (h3 : (subUnify s (c :: A) (c :: B)).2 ≠ 3) : ∃ x, subUnify s (c :: A) (c :: B) = (x, 1) ∧ canon (full x (c :: A)) = canon (full y (c :: A)) ∧ subFull x (c :: A) = (full x (c :: A), true) ∧ subFull y (c :: A) = (full y (c :: A), true) := by
  obtain ⟨_, _, oa, fa⟩ := isTerm_iff'.1 ha
  obtain ⟨_, _, ob, fb⟩ := isTerm_iff'.1 hb
  obtain ⟨ho, hi⟩ := h.spec hs
  have hz : ∀ {θ : Int → List Cell}, Wf θ → (app θ (c :: A) = app θ (c :: B) ↔ ∀ p ∈ (cut (ar c) A).zip (cut (ar c) B), app θ p.1 = app θ p.2) := fun {θ} hw => by
    rw [app_head hc, app_head hc, ← zip_same hw fa.rest fb.rest]
    exact ⟨fun h => (List.cons.inj h).2, fun h => by rw [h]⟩
  have hy := (hi _ (sig_wf ho.good)).1 (sig_solves ho.good)
  have h1 : (subUnify s (c :: A) (c :: B)).2 = 1 := by
    refine Decidable.byContradiction fun h1 => ?_
    obtain ⟨_, hno⟩ := not_done ⟨hs, ha, hb⟩ h1 h3
    exact hno _ (sig_wf ho.good) ⟨hy.1, (hz (sig_wf ho.good)).2 hy.2⟩
  have e : subUnify s (c :: A) (c :: B) = ((subUnify s (c :: A) (c :: B)).1, 1) := Prod.ext rfl h1
  obtain ⟨_, m, _⟩ := subUnify_done e
  have sy : Solves (sig y) (subUnify s (c :: A) (c :: B)).1 := (m.iff _ (sig_wf ho.good)).2 ⟨hy.1, (hz (sig_wf ho.good)).2 hy.2⟩
  have hx := (m.iff _ (sig_wf m.oks.good)).1 (sig_solves m.oks.good)
  have sx : Solves (sig (subUnify s (c :: A) (c :: B)).1) y := (hi _ (sig_wf m.oks.good)).2 ⟨hx.1, (hz (sig_wf m.oks.good)).1 hx.2⟩
  refine ⟨_, e, full_canon m.oks.good ho.good sy sx oa, subFull_ok ⟨m.oks, ha⟩ m.fits, subFull_ok ⟨ho, ha⟩ ?_⟩
  have := full_len ho.good m.oks.good sx oa
  have := m.fits
  omega

theorem law_args_apart {s : List Bind} {c : Cell} {A B : List Cell} (hs : Oks s) (ha : isTerm (c :: A) = true) (hb : isTerm (c :: B) = true) (hc : c.f0 ≠ 1) {y : List Bind} {ps qs : Pairs} {p : List Cell × List Cell} (hp : (cut (ar c) A).zip (cut (ar c) B) = ps ++ p :: qs) (h : Chain s ps y)
    (h1 : isTerm p.1 = true) (h2 : isTerm p.2 = true) (hn : (subUnify y p.1 p.2).2 ≠ 1) (hn3 : (subUnify y p.1 p.2).2 ≠ 3) (h3 : (subUnify s (c :: A) (c :: B)).2 ≠ 3) : subUnify s (c :: A) (c :: B) = ([], 2) := by
  obtain ⟨_, _, oa, fa⟩ := isTerm_iff'.1 ha
  obtain ⟨_, _, ob, fb⟩ := isTerm_iff'.1 hb
  obtain ⟨ho, hi⟩ := h.spec hs
  obtain ⟨_, hno⟩ := not_done ⟨ho, h1, h2⟩ hn hn3
  refine (not_done ⟨hs, ha, hb⟩ (fun e => ?_) h3).1
  obtain ⟨_, m, _⟩ := subUnify_done (x := (subUnify s (c :: A) (c :: B)).1) (Prod.ext rfl e)
  have hx := (m.iff _ (sig_wf m.oks.good)).1 (sig_solves m.oks.good)
  have hw := sig_wf m.oks.good
  have hall : ∀ p ∈ (cut (ar c) A).zip (cut (ar c) B), app (sig (subUnify s (c :: A) (c :: B)).1) p.1 = app (sig (subUnify s (c :: A) (c :: B)).1) p.2 := by
    refine (zip_same hw fa.rest fb.rest).1 ?_
    have := hx.2
    rw [app_head hc, app_head hc] at this
    exact (List.cons.inj this).2
  rw [hp] at hall
  exact hno _ hw ⟨(hi _ hw).2 ⟨hx.1, fun q hq => hall q (by simp [hq])⟩, hall p (by simp)⟩

/-- two names that differ are apart -/
theorem law_names {s : List Bind} {a b : List Cell} {c d : Cell} {A B : List Cell} (ea : a = c :: A) (eb : b = d :: B) (ha : isTerm a = true) (hb : isTerm b = true) (hs : Oks s) (hc : c.f0 ≠ 1) (hd : d.f0 ≠ 1) (hne : c ≠ d) : (subUnify s a b).2 = 2 ∨ (subUnify s a b).2 = 3 := by
  rcases subUnify_code s a b with h | ⟨_, h | h | h⟩
  · exfalso
    obtain ⟨_, m, _⟩ := subUnify_done (x := (subUnify s a b).1) (Prod.ext rfl h)
    have := m.same
    rw [ea, eb, full_fun hc, full_fun hd] at this
    exact hne (List.cons.inj this).1
  · exact .inl h
  · exact .inr h
  · exact absurd ⟨hs, ha, hb⟩ (subUnify_wrong.1 h)

end Go.Proofs.YtlaicnoikeieeaaDoor.Cat
