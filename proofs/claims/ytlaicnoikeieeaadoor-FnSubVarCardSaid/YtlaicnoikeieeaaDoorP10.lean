/- Contracts of functions of the program: each as a Lean function, and that its call does what that says; printed by cprint.py (this session) over print.py of the kit. Conditions: the hypotheses of each theorem. -/
import Derived.Test.YtlaicnoikeieeaaDoorP0
import Derived.Test.YtlaicnoikeieeaaDoorP6
import Derived.Test.YtlaicnoikeieeaaDoorP8
import Derived.Test.YtlaicnoikeieeaaDoorP9
namespace Go.Proofs.YtlaicnoikeieeaaDoor.P
open Go.RowKit Go.Proofs.YtlaicnoikeieeaaDoorW.PrintWords Go.Proofs.YtlaicnoikeieeaaDoorW.PrintLast Go.Proofs.YtlaicnoikeieeaaDoorW.PrintMore
attribute [local go_sem] max2_int min2_int max_two min_two max_three min_three max_four min_four   -- for this text's walks alone
set_option linter.unusedVariables false
set_option linter.unusedSimpArgs false

/-! ### impl_bindings_bind: function 102 -/
/-- a row of bindings in memory: it came in (before w0) and has no room, or it is the call's own; its cells -/
def BRow (w0 W : World) (v : Value) (n : Nat) (raws : List Value) (row : Option Nat) : Prop :=
  raws.length = n * 2 ∧ ((row = none ∧ ∃ ao, v = .slice ao n n ∧ (ao = none → n = 0) ∧ ∀ b, ao = some b → ∀ j u, raws[j]? = some u → W.cell? (b.add j) = some u ∧ b.block < w0.heap.size) ∨ (row = v.ownBlock ∧ W.ownsRow w0.heap.size 30 2 v n raws))
def Elts (W : World) (row : Option Nat) (xs : List Cat.Bind) (raws : List Value) : Prop :=
  ∀ j x, xs[j]? = some x → ∃ A c, raws[j * 2]? = some (.int .i64 x.f0) ∧ raws[j * 2 + 1]? = some (.slice A x.f1.length c) ∧ x.f1.length ≤ c ∧ Kd.F k46 W (fun k => some k ≠ row) A x.f1.length x.f1
def Binds (w0 W : World) (v : Value) (xs : List Cat.Bind) (row : Option Nat) : Prop :=
  Below w0.heap.size w0 W ∧ xs.length ≤ 1000000000 ∧ ∃ raws, BRow w0 W v xs.length raws row ∧ Elts W row xs raws
theorem brow_ge {w0 W : World} {v : Value} {n : Nat} {raws : List Value} {row : Option Nat} (h : BRow w0 W v n raws row) : ∀ k, row = some k → w0.heap.size ≤ k := by
  intro k hk
  rcases h.2 with ⟨rfl, _⟩ | ⟨rfl, ho⟩
  · cases hk
  · rcases ho.2 with ⟨rfl, _⟩ | ⟨g, cap, cur, rfl, hg, _⟩
    · cases hk
    · have e : some g = some k := hk
      injection e with e
      omega
theorem brow_lt {w0 W : World} {v : Value} {n : Nat} {raws : List Value} {row : Option Nat} (h : BRow w0 W v n raws row) : ∀ k, row = some k → k < W.heap.size := by
  intro k hk
  rcases h.2 with ⟨rfl, _⟩ | ⟨rfl, ho⟩
  · cases hk
  · rcases ho.2 with ⟨rfl, _⟩ | ⟨g, cap, cur, rfl, hg, hbk, _⟩
    · cases hk
    · have e : some g = some k := hk
      injection e with e
      subst e
      rcases Nat.lt_or_ge g W.heap.size with h | h
      · exact h
      · rw [Array.getElem?_eq_none h] at hbk; cases hbk
theorem brow_cells {w0 W : World} {v : Value} {n : Nat} {raws : List Value} {row : Option Nat} (h : BRow w0 W v n raws row) : ∃ A c, v = .slice A n c ∧ n ≤ c ∧ (0 < n → ∃ ad, A = some ad ∧ ∀ j u, raws[j]? = some u → W.cell? (ad.add j) = some u) := by
  rcases h.2 with ⟨rfl, ao, rfl, hn, hc⟩ | ⟨rfl, ho⟩
  · refine ⟨ao, n, rfl, Nat.le_refl _, fun hp => ?_⟩
    cases ao with
    | none => have := hn rfl; omega
    | some b => exact ⟨b, rfl, fun j u hj => (hc b rfl j u hj).1⟩
  · rcases ho.2 with ⟨rfl, rfl⟩ | ⟨g, cap, cur, rfl, hg, hb, hcap, hmax, hsz, htk⟩
    · exact ⟨none, 0, rfl, Nat.le_refl _, fun hp => by omega⟩
    · refine ⟨some ⟨g, 0, none⟩, cap, rfl, hcap, fun hp => ⟨_, rfl, fun j u hj => ?_⟩⟩
      refine World.news_of_block hb j u ?_
      rw [← htk] at hj
      rw [List.getElem?_take] at hj
      split at hj
      · exact hj
      · cases hj
theorem brow_step {w0 W W' : World} {v : Value} {n : Nat} {raws : List Value} {row : Option Nat} (h : BRow w0 W v n raws row) (hB : w0.heap.size ≤ W.heap.size) (hb : Below W.heap.size W W') : BRow w0 W' v n raws row := by
  refine ⟨h.1, ?_⟩
  rcases h.2 with ⟨rfl, ao, rfl, hn, hc⟩ | ⟨rfl, hl, ho⟩
  · refine .inl ⟨rfl, ao, rfl, hn, fun b hb' j u hj => ?_⟩
    obtain ⟨q1, q2⟩ := hc b hb' j u hj
    exact ⟨(hb.cell (p := b.add j) (by rw [add_block]; omega)).trans q1, q2⟩
  · refine .inr ⟨rfl, hl, ?_⟩
    rcases ho with ⟨rfl, rfl⟩ | ⟨g, cap, cur, rfl, hg, hbk, hcap, hmax, hsz, htk⟩
    · exact .inl ⟨rfl, rfl⟩
    · refine .inr ⟨g, cap, cur, rfl, hg, ?_, hcap, hmax, hsz, htk⟩
      have hlt : g < W.heap.size := by
        rcases Nat.lt_or_ge g W.heap.size with h | h
        · exact h
        · rw [Array.getElem?_eq_none h] at hbk; cases hbk
      rw [hb.block g hlt]; exact hbk
theorem elts_step {W W' : World} {row : Option Nat} {xs : List Cat.Bind} {raws : List Value} (h : Elts W row xs raws) (hb : Below W.heap.size W W') : Elts W' row xs raws := by
  intro j x hj
  obtain ⟨A, c, h1, h2, h3, h4⟩ := h j x hj
  exact ⟨A, c, h1, h2, h3, Kd.F_below h4 hb⟩
theorem Binds.step {w0 W W' : World} {v : Value} {xs : List Cat.Bind} {row : Option Nat} (h : Binds w0 W v xs row) (hb : Below W.heap.size W W') : Binds w0 W' v xs row := by
  obtain ⟨h0, hn, raws, h1, h2⟩ := h
  exact ⟨h0.trans (hb.mono h0.size), hn, raws, brow_step h1 h0.size hb, elts_step h2 hb⟩
theorem Binds.at_ {w0 W : World} {v : Value} {xs : List Cat.Bind} {row : Option Nat} (h : Binds w0 W v xs row) : ∃ A c, v = .slice A xs.length c ∧ xs.length ≤ c ∧ ∀ j x, xs[j]? = some x → ∃ ad A1 c1, A = some ad ∧ W.cell? (ad.add (j * 2)) = some (.int .i64 x.f0) ∧
    W.cell? (ad.add (j * 2 + 1)) = some (.slice A1 x.f1.length c1) ∧ x.f1.length ≤ c1 ∧ Kd.F k46 W (fun k => some k ≠ row) A1 x.f1.length x.f1 := by
  obtain ⟨h0, hn, raws, h1, h2⟩ := h
  obtain ⟨A, c, e, hc, hcell⟩ := brow_cells h1
  refine ⟨A, c, e, hc, fun j x hj => ?_⟩
  obtain ⟨A1, c1, q1, q2, q3, q4⟩ := h2 j x hj
  have hlt := (List.getElem?_eq_some_iff.1 hj).1
  obtain ⟨ad, ea, hcs⟩ := hcell (by omega)
  exact ⟨ad, A1, c1, ea, hcs _ _ q1, hcs _ _ q2, q3, q4⟩
theorem Binds.C {w0 W : World} {v : Value} {xs : List Cat.Bind} {row : Option Nat} (h : Binds w0 W v xs row) : ∃ A c, v = .slice A xs.length c ∧ xs.length ≤ c ∧ Kd.C k30 W A xs.length xs := by
  obtain ⟨A, c, e, hc, hat⟩ := h.at_
  refine ⟨A, c, e, hc, rfl, by have := h.2.1; omega, fun hp => ?_⟩
  obtain ⟨ad, A1, c1, ea, _⟩ := hat 0 xs[0] (by simp [hp])
  refine ⟨ad, ea, fun j x hj => ?_⟩
  obtain ⟨ad', A1, c1, ea', q1, q2, q3, q4⟩ := hat j x hj
  rw [ea] at ea'
  injection ea' with ea'
  subst ea'
  refine ⟨[.int .i64 x.f0, .slice A1 x.f1.length c1], rfl, k30_mk W x q3 (Kd.F_now q4), fun i u hi => ?_⟩
  match i, hi with
  | 0, hi => obtain rfl := Option.some.inj hi; exact q1
  | 1, hi => obtain rfl := Option.some.inj hi; exact q2
theorem Binds.getT {w0 W : World} {v : Value} {xs : List Cat.Bind} {row : Option Nat} (h : Binds w0 W v xs row) : GetT v xs W (fun A t => Kd.F k46 W (fun k => some k ≠ row) A t.length t) := by
  refine ⟨fun A t h W' hb => Kd.F_now (Kd.F_below h hb), fun a W' hb => ?_⟩
  obtain ⟨A0, c0, rfl, hc0, hat⟩ := h.at_
  have hq : ∀ j : Nat, ∃ q : Option Addr × Nat, ∀ hj : j < xs.length, ∃ ad, A0 = some ad ∧ W.cell? (ad.add (j * 2)) = some (.int .i64 (xs[j]).f0) ∧ W.cell? (ad.add (j * 2 + 1)) = some (.slice q.1 (xs[j]).f1.length q.2) ∧ (xs[j]).f1.length ≤ q.2 ∧
      Kd.F k46 W (fun k => some k ≠ row) q.1 (xs[j]).f1.length (xs[j]).f1 := fun j => by
    by_cases hj : j < xs.length
    · obtain ⟨ad, A1, c1, e1, q1, q2, q3, q4⟩ := hat j xs[j] (by simp [hj])
      exact ⟨(A1, c1), fun _ => ⟨ad, e1, q1, q2, q3, q4⟩⟩
    · exact ⟨(none, 0), fun h => absurd h hj⟩
  obtain ⟨q, hq⟩ := Classical.skolem.1 hq
  have er : ∀ j, (h : j < xs.length) → rd_T30 xs (j : Int) = xs[j] := fun j h => by simp [rd_T30, List.getD, h]
  refine callsIn_wide.1 ((get_in Fence.wide 10 trivial trivial trivial rfl (by omega) A0 xs.length c0 (fun j => (rd_T30 xs j).f0) (fun j => (q j).1) (fun j => (rd_T30 xs j).f1.length) (fun j => (q j).2) (by have := h.2.1; omega) a W' (fun j hj => ?_)).mono ?_)
  · obtain ⟨ad, e1, q1, q2, _⟩ := hq j hj
    rw [er j hj]
    have hbk := World.block_lt_of_cell? W _ q1
    rw [add_block] at hbk
    have e2 : ad.add (j * 2 + 1) = ⟨(ad.add (j * 2)).block, (ad.add (j * 2)).off + 1, none⟩ := by rw [← add_field _ _ 1 (by omega)]
    have q3 := (hb.cell (p := ad.add (j * 2 + 1)) (by rw [add_block]; exact hbk)).trans q2
    rw [e2] at q3
    exact ⟨ad, e1, Nat.lt_of_lt_of_le hbk hb.size, (hb.cell (p := ad.add (j * 2)) (by rw [add_block]; exact hbk)).trans q1, q3⟩
  · rintro e W2 ⟨⟨rfl, hne⟩ | ⟨j, hj, rfl, hv, hn⟩, hB⟩
    · refine ⟨.inl ⟨getL_none _ _ (fun b hb => ?_), rfl⟩, hB⟩
      obtain ⟨j, hj, rfl⟩ := List.getElem_of_mem hb
      have := hne j hj
      rwa [er j hj] at this
    · obtain ⟨ad, _, _, _, h2, h3⟩ := hq j hj
      have e1 := er j hj
      simp only [e1] at h2 h3 hv ⊢
      exact ⟨.inr ⟨xs[j].f1, (q j).1, (q j).2, getL_at xs a j hj hv (fun i hi hij => by rw [← er i hi]; exact hn i hij hi), rfl, h2, h3⟩, hB⟩
/-- what came in, clipped -/
theorem Binds.clip {w0 : World} {A0 : Option Addr} {s : List Cat.Bind} (hs : Kd.C k30 w0 A0 s.length s) (hn : s.length ≤ 1000000000) : Binds w0 w0 (.slice A0 s.length s.length) s none := by
  refine ⟨Below.refl _ _, hn, ?_⟩
  rcases Nat.eq_zero_or_pos s.length with h0 | hp
  · obtain rfl := List.length_eq_zero_iff.1 h0
    refine ⟨[], ⟨rfl, .inl ⟨rfl, A0, rfl, fun _ => rfl, fun b _ j u hj => by simp at hj⟩⟩, fun j x hj => by simp at hj⟩
  · obtain ⟨ad, ea, hat⟩ := hs.2.2 hp
    have hq : ∀ j : Nat, ∃ cs : List Value, cs.length = 2 ∧ ∀ x, s[j]? = some x → (k30.K w0 x cs ∧ ∀ i u, cs[i]? = some u → w0.cell? (ad.add (j * 2 + i)) = some u) := fun j => by
      cases hj : s[j]? with
      | none => exact ⟨[undef, undef], rfl, fun x hx => by cases hx⟩
      | some x =>
        obtain ⟨c, hc, hK, hcell⟩ := hat j x hj
        exact ⟨c, hc, fun y hy => by injection hy with hy; subst hy; exact ⟨hK, hcell⟩⟩
    obtain ⟨q, hq⟩ := Classical.skolem.1 hq
    have hlen : ∀ (n : Nat), (((List.range n).map q).flatten).length = n * 2 := fun n => by
      induction n with
      | zero => rfl
      | succ n ih => rw [List.range_succ, List.map_append, List.flatten_append, List.length_append, ih]; simp [(hq n).1]; omega
    have hget : ∀ (n j i : Nat), j < n → i < 2 → (((List.range n).map q).flatten)[j * 2 + i]? = (q j)[i]? := fun n => by
      induction n with
      | zero => intro j i h; omega
      | succ n ih =>
        intro j i hj hi
        rw [List.range_succ, List.map_append, List.flatten_append]
        rcases Nat.lt_or_ge j n with h | h
        · rw [List.getElem?_append_left (by rw [hlen]; omega), ih j i h hi]
        · obtain rfl : j = n := by omega
          rw [List.getElem?_append_right (by rw [hlen]; omega), hlen]
          simp
    refine ⟨((List.range s.length).map q).flatten, ⟨hlen _, .inl ⟨rfl, A0, rfl, (fun e => by rw [ea] at e; cases e), fun b hb j u hj => ?_⟩⟩, fun j x hj => ?_⟩
    · rw [ea] at hb
      injection hb with hb
      subst hb
      have hjl : j < s.length * 2 := by rw [← hlen]; exact (List.getElem?_eq_some_iff.1 hj).1
      have ej : j = j / 2 * 2 + j % 2 := by omega
      rw [ej, hget _ _ _ (by omega) (by omega)] at hj
      have hc := ((hq (j / 2)).2 s[j / 2] (List.getElem?_eq_getElem (by omega))).2 _ _ hj
      rw [← ej] at hc
      refine ⟨hc, ?_⟩
      have := World.block_lt_of_cell? w0 _ hc
      rwa [add_block] at this
    · have hjl := (List.getElem?_eq_some_iff.1 hj).1
      obtain ⟨hK, _⟩ := (hq j).2 x hj
      obtain ⟨A1, c1, ec, hl1, hC1⟩ := k30_open hK
      refine ⟨A1, c1, ?_, ?_, hl1, Kd.F_mono (Kd.C_F k46_heap hC1) (fun k _ => by simp)⟩
      · have := hget s.length j 0 hjl (by omega)
        rw [Nat.add_zero] at this
        rw [this, ec]
        exact rfl
      · rw [hget s.length j 1 hjl (by omega), ec]
        exact rfl
section
variable {ops : Array Oper} {rest : List Oper} {o : Oper} {a : Act} {Q : Exit → Act → World → Prop}
/-- one binding more -/
theorem Binds.append {w0 W : World} {v : Value} {xs : List Cat.Bind} {row : Option Nat} (h : Binds w0 W v xs row) (hgd : o.guard = none) (sx x : Operand) (ho : o.op = .call { callee := .builtin .append, args := #[sx, x], argTypes := #[85, 85] })
    (hs : a.eval sx = v) (hx : a.eval x = .slice (some ⟨W.heap.size, 0, none⟩) 1 1) (b : Int) (t : List Cat.Cell) (A : Option Addr) (c : Nat) (hl : t.length ≤ c) (hF : Kd.F k46 W (fun k => some k ≠ row) A t.length t) (hn : xs.length < 1000000000)
    (hK : ∀ v1 w1 row1, Binds w0 w1 v1 (xs ++ [⟨b, t⟩]) row1 → W.grownBy w1 row → (row1 = row ∨ ∃ g, row1 = some g ∧ W.heap.size ≤ g) → wpList Tryd.prog ops Q rest (a.put o.dst v1) w1) :
    wpList Tryd.prog ops Q (o :: rest) a (W.alloc (.cells #[.int .i64 b, .slice A t.length c] 30)) := by
  obtain ⟨h0, _, raws, h1, h2⟩ := h
  have hbound : ∀ {row1 : Option Nat} {A1 : Option Addr} {y : List Cat.Cell} {w1 : World}, W.grownBy w1 row → (row1 = row ∨ ∃ g, row1 = some g ∧ W.heap.size ≤ g) → Kd.F k46 W (fun k => some k ≠ row) A1 y.length y → Kd.F k46 w1 (fun k => some k ≠ row1) A1 y.length y := fun hg hr hF => by
    intro W' hW
    refine hF W' (fun k hk hlt => (hW k ?_ (Nat.lt_of_lt_of_le hlt hg.size)).trans (hg.block k hlt hk))
    rcases hr with rfl | ⟨g, rfl, hg'⟩
    · exact hk
    · intro e; injection e with e; omega
  have helts : ∀ {w1 : World} {row1 : Option Nat}, W.grownBy w1 row → (row1 = row ∨ ∃ g, row1 = some g ∧ W.heap.size ≤ g) → Elts w1 row1 (xs ++ [⟨b, t⟩]) (raws ++ [.int .i64 b, .slice A t.length c]) := fun hg hr j x hj => by
    have hrl := h1.1
    rcases Nat.lt_or_ge j xs.length with hjl | hjl
    · rw [List.getElem?_append_left hjl] at hj
      obtain ⟨A1, c1, q1, q2, q3, q4⟩ := h2 j x hj
      exact ⟨A1, c1, by rw [List.getElem?_append_left (by omega)]; exact q1, by rw [List.getElem?_append_left (by omega)]; exact q2, q3, hbound hg hr q4⟩
    · have hjx := (List.getElem?_eq_some_iff.1 hj).1
      rw [List.length_append, List.length_singleton] at hjx
      obtain rfl : j = xs.length := by omega
      rw [List.getElem?_append_right (Nat.le_refl _), Nat.sub_self] at hj
      obtain rfl := Option.some.inj hj
      exact ⟨A, c, by rw [List.getElem?_append_right (by omega), hrl, Nat.sub_self]; rfl, by rw [List.getElem?_append_right (by omega), hrl, show xs.length * 2 + 1 - xs.length * 2 = 1 by omega]; rfl, hl, hbound hg hr hF⟩
  have hlen : (raws ++ [Value.int .i64 b, .slice A t.length c]).length = (xs ++ [(⟨b, t⟩ : Cat.Bind)]).length * 2 := by
    have := h1.1
    simp; omega
  have hxl : (xs ++ [(⟨b, t⟩ : Cat.Bind)]).length = xs.length + 1 := by simp
  rcases h1.2 with ⟨rfl, ao, rfl, hz, hc⟩ | ⟨rfl, hown⟩
  · obtain ⟨i0, hi, hzz⟩ := Option.map_eq_some_iff.1 info30
    simp only [Prod.mk.injEq] at hzz
    obtain ⟨hz0, hz1, hz2⟩ := hzz
    refine wpList_append_grows (W.alloc (.cells #[.int .i64 b, .slice A t.length c] 30)) hgd sx x 85 ho 30 i0 (.agg #[.int .i64 0, .slice none 0 0]) 2 32 Tryd.underlying85 hi hz0 hz1 hz2 rfl (by decide) ao xs.length xs.length raws hs (fun e => ⟨hz e, hz e⟩) h1.1 (fun b' hb j u hj => ?_)
      ⟨W.heap.size, 0, none⟩ 1 1 [.int .i64 b, .slice A t.length c] hx rfl (by simpa using World.news_of_block (cs := #[.int .i64 b, .slice A t.length c]) (t := 30) (fr := (0, 0)) (heap_alloc_new W (.cells #[.int .i64 b, .slice A t.length c] 30))) (by simp [Value.oneCell']) (by omega) (by simp only [maxLen]; omega) (by omega) ?_
    · obtain ⟨q1, q2⟩ := hc b' hb j u hj
      have hB : Below W.heap.size W (W.alloc (.cells #[.int .i64 b, .slice A t.length c] 30)) := (Below.refl _ _).alloc (Nat.le_refl _) _
      exact (hB.cell (p := b'.add j) (by rw [add_block]; have := h0.size; omega)).trans q1
    · intro v1 w1 hown hg
      have hgW := World.grownBy.trans (World.grownBy_alloc W _ _) hg
      have hsz : W.heap.size ≤ (W.alloc (.cells #[.int .i64 b, .slice A t.length c] 30)).heap.size := by simp
      have hr : v1.ownBlock = none ∨ ∃ g, v1.ownBlock = some g ∧ W.heap.size ≤ g := by
        rcases hown.2 with ⟨_, e⟩ | ⟨g, cap, cur, rfl, hge, _⟩
        · omega
        · exact .inr ⟨g, rfl, Nat.le_trans hsz hge⟩
      have hown' : w1.ownsRow w0.heap.size 30 2 v1 (xs.length + 1) (raws ++ [.int .i64 b, .slice A t.length c]) := by
        refine ⟨hown.1, ?_⟩
        rcases hown.2 with h | ⟨g, cap, cur, e1, hge, e2⟩
        · exact .inl h
        · exact .inr ⟨g, cap, cur, e1, Nat.le_trans h0.size (Nat.le_trans hsz hge), e2⟩
      exact hK v1 w1 v1.ownBlock ⟨h0.trans ((below_grown hgW).mono h0.size), by omega, _, ⟨hlen, .inr ⟨rfl, by rw [hxl]; exact hown'⟩⟩, helts hgW hr⟩ hgW hr
  · refine print_append_cells (w0 := w0) (W := W) w0.heap.size hgd sx x 85 30 (.agg #[.int .i64 0, .slice none 0 0]) 2 32 ho Tryd.underlying85 info30 rfl (by decide) (by decide) v xs.length raws [.int .i64 b, .slice A t.length c] hs hx rfl (by simp [Value.oneCell']) hown h0 h0.size (by omega) ?_
    intro v1 w1 hown1 hb1 hg1 hat1
    exact hK v1 w1 v1.ownBlock ⟨hb1, by omega, _, ⟨hlen, .inr ⟨rfl, by rw [hxl]; exact hown1⟩⟩, helts hg1 hat1⟩ hg1 hat1
end
theorem seenF_none : seenF (fun _ => false) = fun _ => none := by funext z; rfl
set_option maxHeartbeats 8000000 in
set_option maxRecDepth 100000 in
theorem bind_calls (w0 : World) (v : Value) (xs : List Cat.Bind) (row : Option Nat) (W : World) (K k : Nat) (b : Int) (t : List Cat.Cell) (A : Option Addr) (c : Nat) (q : Bool) (sn' : Int → Bool) (hb : Binds w0 W v xs row) (hl : t.length ≤ c) (ht : t.length < 4398046511104) (hn : xs.length < 1000000000)
    (hF : Kd.F k46 W (fun k => some k ≠ row) A t.length t) (hh : holdF xs K b k (fun _ => false) t = some (q, sn')) :
    Calls Tryd.prog 102 #[v, .int .i64 b, .slice A t.length c] W fun e w' => ∃ v1 row1, e = .returned (.tuple #[v1, .bool (!q)]) ∧ (q = false → Binds w0 w' v1 (xs ++ [⟨b, t⟩]) row1) ∧ W.grownBy w' row ∧ (row1 = row ∨ ∃ g, row1 = some g ∧ W.heap.size ≤ g) := by
  have HB := Aside0.mk hb
  have HF := Aside0.mk hF
  have HH := Aside0.mk hh
  have HT := Aside0.mk hb.getT
  have HL := Aside0.mk hl
  have HN := Aside0.mk ht
  have HX := Aside0.mk hn
  have HRL : Aside0 (∀ k, row = some k → k < W.heap.size) := by
    obtain ⟨_, _, raws, h1, _⟩ := hb
    exact ⟨brow_lt h1⟩
  obtain ⟨Av, cv, ev, hcv, hC⟩ := hb.C
  subst ev
  clear hb hF hh hl ht hn hcv hC
  have hmm := @run_makeMap Tryd.prog
  have HM0 := Aside0.mk (show Mp.MapIs Tryd.prog 3 (W.alloc (.map #[] 0)) W.heap.size (seenF (fun _ => false)) by rw [seenF_none]; exact Mp.MapIs.made _ _ W)
  have HB0 := Aside0.mk ((Below.refl W.heap.size W).alloc (Nat.le_refl _) (.map #[] 0))
  cases q with
  | true =>
    go_enter Tryd.func102, Tryd.ntmps102
    go_wp2_with (go_at_call 108; refine (holds_any W (.slice Av xs.length cv) xs _ HT.out K b W.heap.size (Nat.le_refl _) k (fun _ => false) t true sn' A c _ HH.out HM0.out HB0.out HF.out HL.out).mono ?_; rintro e w1 ⟨rfl, hm1, hg1⟩; have HB1 := Aside0.mk (below_seen HB0.out hg1 (Nat.le_refl _)); clear hm1 hg1)
    go_ret2
    exact ⟨_, row, rfl, (fun e => by cases e), grown_below HB1.out row, .inl rfl⟩
  | false =>
    go_enter Tryd.func102, Tryd.ntmps102
    go_wp2_with (first
      | (go_at_call 108; refine (holds_any W (.slice Av xs.length cv) xs _ HT.out K b W.heap.size (Nat.le_refl _) k (fun _ => false) t false sn' A c _ HH.out HM0.out HB0.out HF.out HL.out).mono ?_; rintro e w1 ⟨rfl, hm1, hg1⟩; have HB1 := Aside0.mk (below_seen HB0.out hg1 (Nat.le_refl _)); clear hm1 hg1)
      | (go_at_call 55; refine (slices_Clone_TrmCell.calls A c t t _ (Kd.F_now (Kd.F_below HF.out HB1.out)) HL.out (if_pos HN.out)).mono ?_; rintro e w2 ⟨v2, rfl, ho2, hb2⟩; obtain ⟨A2, c2, rfl⟩ := Kd.R_slice ho2; have HO2 := Aside0.mk ho2; have HB2 := Aside0.mk hb2; clear ho2 hb2)
      | ((with_reducible refine gate_builtin (b := .append) (xs := #[.tmp 13, .tmp 18]) rfl ?_); at_builtin; refine Binds.append (HB.out.step (HB1.out.trans (HB2.out.mono HB1.out.size))) rfl (.tmp 13) (.tmp 18) rfl rfl rfl b t A2 c2 ?aL ?aF HX.out ?_; (case aL => exact (Kd.R_reads' HO2.out).2.1); (case aF => refine Kd.F_mono (Kd.R_F (Kd.R_bound HO2.out)) (fun k_ hk_ e_ => ?_); have h1_ := HRL.out k_ e_.symm; have h2_ := hk_.2.1; have h3_ := HB1.out.size; omega); intro v9 w9 row9 hb9 hg9 hr9; have HB9 := Aside0.mk hb9; have HG9 := Aside0.mk hg9; have HR9 := Aside0.mk hr9; clear hb9 hg9 hr9))
    go_ret2
    refine ⟨v9, row9, rfl, fun _ => HB9.out, grown_both (grown_below (HB1.out.trans (HB2.out.mono HB1.out.size)) row) HG9.out, ?_⟩
    rcases HR9.out with h | ⟨g, h1, h2⟩
    · exact .inl h
    · exact .inr ⟨g, h1, Nat.le_trans (Nat.le_trans HB1.out.size HB2.out.size) h2⟩

end Go.Proofs.YtlaicnoikeieeaaDoor.P
