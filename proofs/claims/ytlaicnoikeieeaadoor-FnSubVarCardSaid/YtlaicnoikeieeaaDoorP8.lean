/- Contracts of functions of the program: each as a Lean function, and that its call does what that says; printed by cprint.py (this session) over print.py of the kit. Conditions: the hypotheses of each theorem. -/
import Derived.Test.YtlaicnoikeieeaaDoorP0
namespace Go.Proofs.YtlaicnoikeieeaaDoor.P
open Go.RowKit Go.Proofs.YtlaicnoikeieeaaDoorW.PrintWords Go.Proofs.YtlaicnoikeieeaaDoorW.PrintLast Go.Proofs.YtlaicnoikeieeaaDoorW.PrintMore
attribute [local go_sem] max2_int min2_int max_two min_two max_three min_three max_four min_four   -- for this text's walks alone
set_option linter.unusedVariables false
set_option linter.unusedSimpArgs false

/-! ### impl_bindings_get: function 103 -/
/-- the last binding of a variable -/
def getL : List Cat.Bind → Int → Option (List Cat.Cell)
  | [], _ => none
  | b :: s, v => match getL s v with
    | some t => some t
    | none => if b.f0 = v then some b.f1 else none
theorem getL_none : ∀ (s : List Cat.Bind) (v : Int), (∀ b ∈ s, b.f0 ≠ v) → getL s v = none
  | [], v, _ => rfl
  | b :: s, v, h => by rw [getL, getL_none s v (fun x hx => h x (by simp [hx]))]; exact if_neg (h b (by simp))
theorem getL_at : ∀ (s : List Cat.Bind) (v : Int) (j : Nat) (h : j < s.length), s[j].f0 = v → (∀ i, (hi : i < s.length) → j < i → s[i].f0 ≠ v) → getL s v = some s[j].f1
  | b :: s, v, 0, h, e, hn => by
    rw [getL, getL_none s v (fun x hx => by
      obtain ⟨i, hi, rfl⟩ := List.getElem_of_mem hx
      exact hn (i + 1) (by simp; omega) (Nat.succ_pos _))]
    exact if_pos e
  | b :: s, v, j + 1, h, e, hn => by
    rw [getL, getL_at s v j (by simpa using h) (by simpa using e) (fun i hi hij => by have := hn (i + 1) (by simp; omega) (by omega); simpa using this)]
    rfl
/-- the last k numbers below n, the greatest first -/
def down (n k : Nat) : List Nat := (List.range k).map fun t => n - 1 - t
theorem down_succ (n k : Nat) : down n (k + 1) = down n k ++ [n - 1 - k] := by simp [down, List.range_succ]
theorem down_length (n k : Nat) : (down n k).length = k := by simp [down]
theorem mem_down {n k j : Nat} (hk : k ≤ n) : j ∈ down n k ↔ n - k ≤ j ∧ j < n := by
  simp only [down, List.mem_map, List.mem_range]
  constructor
  · rintro ⟨t, h1, rfl⟩; omega
  · rintro ⟨h1, h2⟩; exact ⟨n - 1 - j, by omega, by omega⟩
section
attribute [local go_sem] Oper.semAt_some
set_option maxRecDepth 100000 in
set_option maxHeartbeats 4000000 in
theorem backward1_in (F : Fence) (n : Nat) (h7 : F.fn 117) (hro : F.round = none) (hn : 1 ≤ n) (l Bs n₀ len cap : Nat) (A0 : Option Addr) (f0 : Nat → Int) (AA : Nat → Option Addr) (ll cc : Nat → Nat) (hlen : len ≤ 9223372036854775807) (J Jx : List Nat → World → Prop)
    (hY : ∀ pre (x : Nat) W, J pre W → pre.length < len → YieldAt F (n - 1) Tryd.prog l #[.int .i64 (x : Int), .agg #[.int .i64 (f0 x), .slice (AA x) (ll x) (cc x)]] W fun e W' =>
      (e = .returned (.bool true) ∧ J (pre ++ [x]) W' ∧ Below n₀ W W') ∨ (e = .returned (.bool false) ∧ Jx (pre ++ [x]) W'))
    (W : World) (hBs : W.cell? ⟨Bs, 0, none⟩ = some (.slice A0 len cap)) (hBn : Bs < n₀)
    (hc : ∀ j, j < len → ∃ ad, A0 = some ad ∧ ad.block < n₀ ∧ W.cell? (ad.add (j * 2)) = some (.int .i64 (f0 j)) ∧ W.cell? ⟨(ad.add (j * 2)).block, (ad.add (j * 2)).off + 1, none⟩ = some (.slice (AA j) (ll j) (cc j))) (h0 : J [] W) :
    CallsIn F n Tryd.prog 117 #[.func (.yield l) #[] #[], .pointer (some ⟨Bs, 0, none⟩)] W fun e W' => (∃ v, e = .returned v) ∧
      ((∃ ys, ys = down len len ∧ J ys W') ∨ (∃ pre, (∃ k, k ≤ len ∧ pre = down len k) ∧ Jx pre W')) := by
  have HC := Aside0.mk hc
  have HY := Aside0.mk hY
  clear hc hY
  refine callsIn_of_wp Tryd.func117 rfl h7 ?_ hro
  simp only [Tryd.ntmps117, List.size_toArray, List.length_cons, List.length_nil, Nat.reduceAdd, Nat.reduceSub, Array.replicate_succ, Array.replicate_zero, List.push_toArray, List.append_toArray, List.nil_append, List.cons_append]
  gi_wp2
  gi_loopw [3] (fun i wr => ∃ m : Nat, m ≤ len ∧ i = .int .i64 ((m : Int) - 1) ∧ J (down len (len - m)) wr ∧ Below n₀ W wr)
    (fun i _ => (intOf i + 1).toNat)
  case atStart => exact ⟨len, Nat.le_refl _, rfl, by rw [Nat.sub_self]; exact h0, Below.refl _ _⟩
  case round =>
    obtain ⟨m, hm, rfl, hJs, hnx⟩ := hrel
    cases m with
    | zero =>
      have e0 : (((0 : Nat) : Int) - 1) = -1 := by omega
      rw [e0]
      gi_wp2
      go_end0
      exact ⟨⟨_, rfl⟩, .inl ⟨_, rfl, by simpa using hJs⟩⟩
    | succ j =>
      have e0 : (((j + 1 : Nat) : Int) - 1) = (j : Int) := by omega
      rw [e0]
      obtain ⟨ad, e1, hb, hx0, hx1⟩ := HC.out j (by omega)
      cases e1
      replace hx0 := (hnx.cell (p := ad.add (j * 2)) (by rw [add_block]; exact hb)).trans hx0
      replace hx1 := (hnx.cell (p := ⟨(ad.add (j * 2)).block, (ad.add (j * 2)).off + 1, none⟩) (by show (ad.add (j * 2)).block < n₀; rw [add_block]; exact hb)).trans hx1
      have hBs' := (hnx.cell (p := ⟨Bs, 0, none⟩) hBn).trans hBs
      obtain ⟨fn, tmps, assign, body, hy, hR⟩ := HY.out _ j wr hJs (by rw [down_length]; omega)
      have ed : down len (len - (j + 1)) ++ [j] = down len (len - j) := by rw [show len - j = (len - (j + 1)) + 1 by omega, down_succ]; congr 2; omega
      rw [ed] at hR
      gi_wp2
      refine hR.mono ?_
      rintro e W3 (⟨rfl, hJ3, hk3⟩ | ⟨rfl, hJx3⟩)
      · gi_wp2
        go_roundw
        case rel => exact ⟨j, by omega, rfl, hJ3, hnx.trans hk3⟩
        case measure => simp [intOf]
      · gi_wp2
        refine bodyPost_ret (results_none rfl _ _ _) rfl ?_
        exact ⟨⟨_, rfl⟩, .inr ⟨_, ⟨len - j, by omega, rfl⟩, hJx3⟩⟩
set_option maxHeartbeats 1000000 in
theorem backward_in (F : Fence) (n : Nat) (h5 : F.fn 109) (hro : F.round = none) (a : Option Addr) (len cap : Nat) (w : World) :
    CallsIn F n Tryd.prog 109 #[.slice a len cap] w fun e w' => e = .returned (.func (.func 117) #[] #[.pointer (some ⟨w.heap.size, 0, none⟩)]) ∧ w' = w.alloc (.cells #[.slice a len cap] 85) := by
  refine callsIn_of_wp Tryd.func109 rfl h5 ?_ hro
  simp only [Tryd.ntmps109, List.size_toArray, List.length_cons, List.length_nil, Nat.reduceAdd, Nat.reduceSub, Array.replicate_succ, Array.replicate_zero, List.push_toArray, List.append_toArray, List.nil_append, List.cons_append]
  gi_wp2
  go_ret
  exact ⟨rfl, rfl⟩
theorem backward_stops (F : Fence) (n : Nat) (h7 : F.fn 117) (hro : F.round = none) (hn : 1 ≤ n) (Bs n₀ len cap : Nat) (A0 : Option Addr) (f0 : Nat → Int) (AA : Nat → Option Addr) (ll cc : Nat → Nat) (hlen : len ≤ 9223372036854775807) (w : World) (hBs : Bs < n₀) (hn₀ : n₀ ≤ w.heap.size)
    (hcs : w.cell? ⟨Bs, 0, none⟩ = some (.slice A0 len cap)) (hc : ∀ j, j < len → ∃ ad, A0 = some ad ∧ ad.block < n₀ ∧ w.cell? (ad.add (j * 2)) = some (.int .i64 (f0 j)) ∧ w.cell? ⟨(ad.add (j * 2)).block, (ad.add (j * 2)).off + 1, none⟩ = some (.slice (AA j) (ll j) (cc j))) :
    SeqStopsK F n Tryd.prog 117 #[.pointer (some ⟨Bs, 0, none⟩)] (fun x : Nat => #[.int .i64 (x : Int), .agg #[.int .i64 (f0 x), .slice (AA x) (ll x) (cc x)]]) (Below n₀) (fun ys => ys = down len len) (fun pre => ∃ k, k ≤ len ∧ pre = down len k) len w := fun l J Jx W hW _ _ hY h0 => by
  have hb := hW.mono hn₀
  refine backward1_in F n h7 hro hn l Bs n₀ len cap A0 f0 AA ll cc hlen J Jx hY W ((hb.cell (p := ⟨Bs, 0, none⟩) hBs).trans hcs) hBs (fun j hj => ?_) h0
  obtain ⟨ad, e1, hb1, hx0, hx1⟩ := hc j hj
  exact ⟨ad, e1, hb1, (hb.cell (p := ad.add (j * 2)) (by rw [add_block]; exact hb1)).trans hx0, (hb.cell (p := ⟨(ad.add (j * 2)).block, (ad.add (j * 2)).off + 1, none⟩) (by show (ad.add (j * 2)).block < n₀; rw [add_block]; exact hb1)).trans hx1⟩
set_option maxRecDepth 100000 in
set_option maxHeartbeats 4000000 in
theorem get_in (F : Fence) (n : Nat) (h3 : F.fn 103) (h5 : F.fn 109) (h7 : F.fn 117) (hro : F.round = none) (hn : 3 ≤ n) (A0 : Option Addr) (len cap : Nat) (f0 : Nat → Int) (AA : Nat → Option Addr) (ll cc : Nat → Nat) (hlen : len ≤ 9223372036854775807) (v : Int) (w : World)
    (hc : ∀ j, j < len → ∃ ad, A0 = some ad ∧ ad.block < w.heap.size ∧ w.cell? (ad.add (j * 2)) = some (.int .i64 (f0 j)) ∧ w.cell? ⟨(ad.add (j * 2)).block, (ad.add (j * 2)).off + 1, none⟩ = some (.slice (AA j) (ll j) (cc j))) :
    CallsIn F n Tryd.prog 103 #[.slice A0 len cap, .int .i64 v] w fun e W' =>
      ((e = .returned (.slice none 0 0) ∧ ∀ j, j < len → f0 j ≠ v) ∨ ∃ j, j < len ∧ e = .returned (.slice (AA j) (ll j) (cc j)) ∧ f0 j = v ∧ ∀ i, j < i → i < len → f0 i ≠ v) ∧ Below w.heap.size w W' := by
  have h1 : 1 ≤ n := by omega
  refine callsIn_of_wp_marks Tryd.func103 rfl h3 ?_ hro
  simp only [Tryd.ntmps103, List.size_toArray, List.length_cons, List.length_nil, Nat.reduceAdd, Nat.reduceSub, Array.replicate_succ, Array.replicate_zero, List.push_toArray, List.append_toArray, List.nil_append, List.cons_append]
  have HC := Aside0.mk hc
  clear hc
  gi_wp2_with (gi_at_call 109; refine (backward_in F (n - 1) h5 hro _ _ _ _).mono ?_; rintro e w' ⟨rfl, rfl⟩)
  have hB0 : Below w.heap.size w (((w.alloc (.cells #[.int .i64 v] 3)).alloc (.cells #[.slice none 0 0] 26)).alloc (.cells #[.slice A0 len cap] 85)) := (((Below.refl _ w).alloc (Nat.le_refl _) _).alloc (by simp) _).alloc (by simp; omega) _
  have hsz : (((w.alloc (.cells #[.int .i64 v] 3)).alloc (.cells #[.slice none 0 0] 26)).alloc (.cells #[.slice A0 len cap] 85)).heap.size = w.heap.size + 3 := by simp
  have c3 : (((w.alloc (.cells #[.int .i64 v] 3)).alloc (.cells #[.slice none 0 0] 26)).alloc (.cells #[.slice A0 len cap] 85)).cell? ⟨w.heap.size, 0, none⟩ = some (.int .i64 v) := by simp [go_sem]
  have c4 : (((w.alloc (.cells #[.int .i64 v] 3)).alloc (.cells #[.slice none 0 0] 26)).alloc (.cells #[.slice A0 len cap] 85)).cell? ⟨w.heap.size + 1, 0, none⟩ = some (.slice none 0 0) := by simp [go_sem]
  have f4 : (((w.alloc (.cells #[.int .i64 v] 3)).alloc (.cells #[.slice none 0 0] 26)).alloc (.cells #[.slice A0 len cap] 85)).frozen? ⟨w.heap.size + 1, 0, none⟩ = false := by simp [go_sem]
  have c5 : (((w.alloc (.cells #[.int .i64 v] 3)).alloc (.cells #[.slice none 0 0] 26)).alloc (.cells #[.slice A0 len cap] 85)).cell? ⟨w.heap.size + 1 + 1, 0, none⟩ = some (.slice A0 len cap) := by simp [go_sem]
  generalize (((w.alloc (.cells #[.int .i64 v] 3)).alloc (.cells #[.slice none 0 0] 26)).alloc (.cells #[.slice A0 len cap] 85)) = W0 at hB0 hsz c3 c4 f4 c5 ⊢
  have hcw : ∀ j, j < len → ∃ ad, A0 = some ad ∧ ad.block < w.heap.size + 3 ∧ W0.cell? (ad.add (j * 2)) = some (.int .i64 (f0 j)) ∧ W0.cell? ⟨(ad.add (j * 2)).block, (ad.add (j * 2)).off + 1, none⟩ = some (.slice (AA j) (ll j) (cc j)) := fun j hj => by
    obtain ⟨ad, e1, hb1, hx0, hx1⟩ := HC.out j hj
    exact ⟨ad, e1, by omega, (hB0.cell (p := ad.add (j * 2)) (by rw [add_block]; exact hb1)).trans hx0, (hB0.cell (p := ⟨(ad.add (j * 2)).block, (ad.add (j * 2)).off + 1, none⟩) (by show (ad.add (j * 2)).block < w.heap.size; rw [add_block]; exact hb1)).trans hx1⟩
  refine wpIn_rangeFunc_ownH hro h1 (gf := 117) (lb := #[.pointer (some ⟨w.heap.size + 1 + 1, 0, none⟩)]) rfl h7 (enters_of Tryd.func117 (by kernel_rfl) rfl)
    (backward_stops F (n - 1) h7 hro (by omega) (w.heap.size + 1 + 1) (w.heap.size + 3) len cap A0 f0 AA ll cc hlen W0 (by omega) (by omega) c5 hcw) belowK_t (belowK_b (by omega)) (Below.refl _ _) (fun _ => rfl)
    (fun pre W => ((∀ i ∈ pre, f0 i ≠ v) ∧ W.cell? ⟨w.heap.size, 0, none⟩ = some (.int .i64 v) ∧ W.cell? ⟨w.heap.size + 1, 0, none⟩ = some (.slice none 0 0) ∧ W.frozen? ⟨w.heap.size + 1, 0, none⟩ = false) ∧ (Below w.heap.size w W ∧ Below (w.heap.size + 3) W0 W))
    (fun c pre W => (c = .ret ∧ ∃ ini j, pre = ini ++ [j] ∧ (∀ i ∈ ini, f0 i ≠ v) ∧ f0 j = v ∧ W.cell? ⟨w.heap.size + 1, 0, none⟩ = some (.slice (AA j) (ll j) (cc j))) ∧ Below w.heap.size w W)
    (OwnFrom.and (Own.from (fun s A B row hs hg hr => ⟨hs.1, cell_kept hs.2.1 hg hr, cell_kept hs.2.2.1 hg hr, (frozen_kept hs.2.2.1 hg hr).trans hs.2.2.2⟩) _) (OwnFrom.and (ownFrom_below (Nat.le_refl _) (by omega)) (ownFrom_below (by omega) (by omega))))
    (fun c => OwnFrom.and (Own.from (fun s A B row hs hg hr => by obtain ⟨hc, ini, last, e1, e2, e3, e4⟩ := hs; exact ⟨hc, ini, last, e1, e2, e3, cell_kept e4 hg hr⟩) _) (ownFrom_below (Nat.le_refl _) (by omega)))
    ⟨⟨by simp, c3, c4, f4⟩, hB0, Below.refl _ _⟩
    (fun x a' W => ∃ Bx, w.heap.size + 1 + 1 < Bx ∧ (W.cell? ⟨Bx, 0, none⟩ = some (.int .i64 (f0 x)) ∧ W.cell? ⟨Bx, 1, none⟩ = some (.slice (AA x) (ll x) (cc x))) ∧ a' = { tmps := #[.slice A0 len cap, .int .i64 v, undef, .pointer (some ⟨w.heap.size, 0, none⟩), .pointer (some ⟨w.heap.size + 1, 0, none⟩), undef, .pointer (some ⟨Bx, 0, none⟩), .slice A0 len cap,
      .func (.func 117) #[] #[.pointer (some ⟨w.heap.size + 1 + 1, 0, none⟩)], .int .i64 (x : Int), .agg #[.int .i64 (f0 x), .slice (AA x) (ll x) (cc x)], undef, undef, undef, undef, undef, undef], defers := [] })
    (fun x a' _ X Y row hs hg hr => by obtain ⟨Bx, h1, ⟨h2, h3⟩, h4⟩ := hs; exact ⟨Bx, h1, ⟨cell_kept h2 hg (fun r e => (hr r e).2), cell_kept h3 hg (fun r e => (hr r e).2)⟩, h4⟩)
    ?assign ?body ?done ?stop
  case assign =>
    rintro l pre x W K ⟨⟨hp, hc3, hc4, hf4⟩, hB1, hBn⟩ hK
    have hK0 := Aside0.mk hK
    have HP := Aside0.mk hp
    clear hK hp
    gi_wp2
    have hWs : w.heap.size + 3 ≤ W.heap.size := by have := hBn.size; omega
    have hBa := (Below.refl (w.heap.size + 3) W).alloc hWs (.cells #[.int .i64 (f0 x), .slice (AA x) (ll x) (cc x)] 30)
    refine hK0.out _ _ ((KeepsOthers.alloc _ _).from _) hBa ⟨⟨HP.out, (hBa.cell (p := ⟨w.heap.size, 0, none⟩) (by simp)).trans hc3, (hBa.cell (p := ⟨w.heap.size + 1, 0, none⟩) (by simp)).trans hc4, (hBa.frozen (p := ⟨w.heap.size + 1, 0, none⟩) (by simp)).trans hf4⟩, hB1.alloc hB1.size _, hBn.trans hBa⟩ ⟨W.heap.size, by omega, ⟨?_, ?_⟩, rfl⟩
    · simp [go_sem]
    · simp [go_sem]
  case body =>
    rintro l pre x a' W hl ⟨r, hr⟩ ⟨⟨hp, hc3, hc4, hf4⟩, hB1, hBn⟩ ⟨Bx, hBx, ⟨hx0, hx1⟩, rfl⟩ hlt
    have HP := Aside0.mk hp
    clear hp
    by_cases hv : f0 x = v
    · have hvt : (f0 x == v) = true := by simpa using hv
      have HV := Aside0.mk hv
      clear hv
      gi_wp2
      exact ⟨(KeepsOthers.setCell _ _ _).from _, ⟨rfl, pre, x, rfl, HP.out, HV.out, World.cell?_setCell_same' _ _ _ (by rw [hc4]; rfl)⟩, hB1.setCell (p := ⟨w.heap.size + 1, 0, none⟩) (by simp) _⟩
    · have hvt : (f0 x == v) = false := by simpa using hv
      have HV := Aside0.mk hv
      clear hv
      gi_wp2
      exact ⟨KeepsFrom.refl _ _, Below.refl _ _, ⟨fun p hp' => (List.mem_append.1 hp').elim (HP.out p) (fun e => by rw [List.mem_singleton.1 e]; exact HV.out), hc3, hc4, hf4⟩, hB1, hBn⟩
  case done =>
    rintro D ys W hD rfl ⟨⟨hne, hc3, hcr, hfr⟩, hB, _⟩ hK
    have HN := Aside0.mk hne
    clear hne
    gi_wp2
    have hK' := (KeepsOthers.setCell W ⟨w.heap.size + 1, 0, none⟩ (.slice none 0 0)).same D _ hK rfl
    refine ⟨by simp, .inl ⟨_, _, rfl, run_takeDeferred hK', ?_⟩⟩
    have hc5 := cell_kept (World.cell?_setCell_same' W ⟨w.heap.size + 1, 0, none⟩ (.slice none 0 0) (by rw [hcr]; rfl)) (grownBy_putObj' _ D (.deferred none)) (fun r e => by cases e; exact ⟨_, hK', rfl⟩)
    refine ⟨.slice none 0 0, ?_, .inl ⟨rfl, fun j hj => HN.out j ((mem_down (Nat.le_refl _)).2 ⟨by omega, hj⟩)⟩, (hB.setCell (p := ⟨w.heap.size + 1, 0, none⟩) (by simp) _).trans (belowK_b (w := w) (Nat.le_refl _) _ D _ _ (by omega) hK' rfl rfl)⟩
    simp [results, Tryd.f103, go_sem, hc5]
  case stop =>
    rintro D c pre W hD ⟨k, hk, rfl⟩ ⟨⟨rfl, ini, last, e1, e2, e3, hcr⟩, hB⟩ hK
    gi_wp2
    refine ⟨by simp, .inl ⟨_, _, rfl, run_takeDeferred hK, ?_⟩⟩
    have hc5 := cell_kept hcr (grownBy_putObj' _ D (.deferred none)) (fun r e => by cases e; exact ⟨_, hK, rfl⟩)
    obtain ⟨k', rfl⟩ : ∃ k', k = k' + 1 := by
      cases k with
      | zero => simp [down] at e1
      | succ k' => exact ⟨k', rfl⟩
    rw [down_succ] at e1
    obtain ⟨rfl, e5⟩ := List.append_inj' e1 rfl
    obtain rfl : len - 1 - k' = last := by simpa using e5
    refine ⟨.slice (AA (len - 1 - k')) (ll (len - 1 - k')) (cc (len - 1 - k')), ?_, .inr ⟨len - 1 - k', by omega, rfl, e3, fun i hi1 hi2 => e2 i ((mem_down (by omega)).2 ⟨by omega, hi2⟩)⟩, hB.trans (belowK_b (w := w) (Nat.le_refl _) W D _ _ (by omega) hK rfl rfl)⟩
    simp [results, Tryd.f103, go_sem, hc5]
end
/-- what a variable is bound to at last: the slice itself; nil, if it is not bound -/
theorem get_calls0 (A0 : Option Addr) (c0 : Nat) (l0 : List (S30)) (v : Int) (w0 w : World) (hr0 : Kd.C k30 w0 A0 l0.length l0) (hb0 : Below w0.heap.size w0 w) :
    Calls Tryd.prog 103 #[.slice A0 l0.length c0, .int .i64 v] w fun e w' =>
      ((getL l0 v = none ∧ e = .returned (.slice none 0 0)) ∨ ∃ t A c, getL l0 v = some t ∧ e = .returned (.slice A t.length c) ∧ t.length ≤ c ∧ Kd.C k46 w0 A t.length t) ∧ Below w.heap.size w w' := by
  have hat : ∀ j : Nat, ∃ q : Option Addr × Nat, j < l0.length → ∃ ad, A0 = some ad ∧ ad.block < w0.heap.size ∧ w0.cell? (ad.add (j * 2)) = some (.int .i64 (rd_T30 l0 j).f0) ∧
      w0.cell? ⟨(ad.add (j * 2)).block, (ad.add (j * 2)).off + 1, none⟩ = some (.slice q.1 (rd_T30 l0 j).f1.length q.2) ∧ (rd_T30 l0 j).f1.length ≤ q.2 ∧ Kd.C k46 w0 q.1 (rd_T30 l0 j).f1.length (rd_T30 l0 j).f1 := fun j => by
    by_cases hj : j < l0.length
    · obtain ⟨ad, A1, c1, e1, h0, h1, h2, h3⟩ := at_T30 hr0 (j : Int) (by omega) (by omega)
      rw [Int.toNat_natCast] at h0 h1
      refine ⟨(A1, c1), fun _ => ⟨ad, e1, ?_, h0, h1, h2, h3⟩⟩
      have := World.block_lt_of_cell? w0 _ h0
      rwa [add_block] at this
    · exact ⟨(none, 0), fun h => absurd h hj⟩
  obtain ⟨q, hq⟩ := Classical.skolem.1 hat
  refine callsIn_wide.1 ((get_in Fence.wide 10 trivial trivial trivial rfl (by omega) A0 l0.length c0 (fun j => (rd_T30 l0 j).f0) (fun j => (q j).1) (fun j => (rd_T30 l0 j).f1.length) (fun j => (q j).2) hr0.2.1 v w (fun j hj => ?_)).mono ?_)
  · obtain ⟨ad, e1, h0, h1, h2, _⟩ := hq j hj
    exact ⟨ad, e1, Nat.lt_of_lt_of_le h0 hb0.size, (hb0.cell (p := ad.add (j * 2)) (by rw [add_block]; exact h0)).trans h1, (hb0.cell (p := ⟨(ad.add (j * 2)).block, (ad.add (j * 2)).off + 1, none⟩) (by show (ad.add (j * 2)).block < w0.heap.size; rw [add_block]; exact h0)).trans h2⟩
  · have er : ∀ j, (h : j < l0.length) → rd_T30 l0 (j : Int) = l0[j] := fun j h => by simp [rd_T30, List.getD, h]
    rintro e W' ⟨⟨rfl, hne⟩ | ⟨j, hj, rfl, hv, hn⟩, hB⟩
    · refine ⟨.inl ⟨getL_none _ _ (fun b hb => ?_), rfl⟩, hB⟩
      obtain ⟨j, hj, rfl⟩ := List.getElem_of_mem hb
      have := hne j hj
      rwa [er j hj] at this
    · obtain ⟨ad, _, _, _, _, h2, h3⟩ := hq j hj
      have e1 := er j hj
      simp only [e1] at h2 h3 hv ⊢
      exact ⟨.inr ⟨l0[j].f1, (q j).1, (q j).2, getL_at l0 v j hj hv (fun i hi hij => by rw [← er i hi]; exact hn i hij hi), rfl, h2, h3⟩, hB⟩
theorem get_calls (A0 : Option Addr) (c0 : Nat) (l0 : List (S30)) (v : Int) (w : World) (hr0 : Kd.C k30 w A0 l0.length l0) :
    Calls Tryd.prog 103 #[.slice A0 l0.length c0, .int .i64 v] w fun e w' =>
      ((getL l0 v = none ∧ e = .returned (.slice none 0 0)) ∨ ∃ t A c, getL l0 v = some t ∧ e = .returned (.slice A t.length c) ∧ t.length ≤ c ∧ Kd.C k46 w A t.length t) ∧ Below w.heap.size w w' :=
  get_calls0 A0 c0 l0 v w w hr0 (Below.refl _ _)

/-! ### impl_bindings_fill: function 96 -/
/-- a term with what is bound, behind others, as the program puts it -/
def fillL (f : List Cat.Cell → List Cat.Cell → Option (List Cat.Cell)) (g : Int → Option (List Cat.Cell)) : List Cat.Cell → List Cat.Cell → Option (List Cat.Cell)
  | out, [] => some out
  | out, c :: l => if 40 < out.length then some out else if c.f0 = 1 then match g c.f1 with
      | none => fillL f g (out ++ [c]) l
      | some t => if t = [] then none else (f out t).bind fun o => fillL f g o l
    else fillL f g (out ++ [c]) l
def fillF (s : List Cat.Bind) : Nat → List Cat.Cell → List Cat.Cell → Option (List Cat.Cell)
  | 0, _, _ => none
  | k + 1, out, t => fillL (fillF s k) (getL s) out t
theorem cells_pos {w : World} {A : Option Addr} {t : List Cat.Cell} (h : Kd.C k46 w A t.length t) (hp : t ≠ []) : ∃ ad, A = some ad := by
  obtain ⟨ad, e, _⟩ := h.2.2 (List.length_pos_iff.2 hp)
  exact ⟨ad, e⟩
set_option maxHeartbeats 8000000 in
set_option maxRecDepth 100000 in
theorem fill_any (w0 : World) (A0 : Option Addr) (c0 : Nat) (s : List Cat.Bind) (hs : Kd.C k30 w0 A0 s.length s) : ∀ (k : Nat) (out t r : List Cat.Cell) (v : Value) (A : Option Addr) (c : Nat) (W : World), fillF s k out t = some r →
    Kd.R k46 46 W w0.heap.size (fun _ => True) v out → Below w0.heap.size w0 W → Kd.C k46 w0 A t.length t → t.length ≤ c →
    Calls Tryd.prog 96 #[.slice A0 s.length c0, v, .slice A t.length c] W fun e w' => ∃ v', e = .returned v' ∧ Kd.R k46 46 w' w0.heap.size (fun _ => True) v' r ∧ Below w0.heap.size w0 w' := by
  intro k
  induction k with
  | zero => intro out t r v A c W h; cases h
  | succ k ih =>
    intro out t r v A c W h hR hB hC hl
    rw [fillF] at h
    have HH := Aside0.mk h
    have HR := Aside0.mk hR
    have HB := Aside0.mk hB
    have HC := Aside0.mk hC
    have HI := Aside0.mk ih
    have hm : t.length ≤ 9223372036854775807 := hC.2.1
    have hnn := fun (w : World) (a : Option Addr) (n c : Nat) => run_neq_slice_nil_any (P := Tryd.prog) w 26 46 a n c 0 0 Tryd.underlying26
    clear h hR hB hC ih
    obtain ⟨Av, cv, hv⟩ := Kd.R_slice HR.out
    subst hv
    go_enter Tryd.func96, Tryd.ntmps96
    go_wp2
    go_loopg [1, 8, 9, 12] t.length (fun gg u1 _ _ s12 wr => ∃ (j : Nat) (o : List Cat.Cell), j ≤ t.length ∧ t.length - j ≤ gg ∧ s12 = .int .i64 j ∧ Aside0 (Kd.R k46 46 wr w0.heap.size (fun _ => True) u1 o) ∧ Aside0 (Below w0.heap.size w0 wr) ∧
      Aside0 (fillL (fillF s k) (getL s) o (t.drop j) = some r))
    case atStart => exact ⟨0, out, Nat.zero_le _, by omega, rfl, HR, HB, ⟨by rw [List.drop_zero]; exact HH.out⟩⟩
    case round =>
      obtain ⟨j, o, hj, hgg, rfl, HRo, HBr, HF⟩ := hrel
      obtain ⟨Ao, co, hv⟩ := Kd.R_slice HRo.out
      subst hv
      have hom : o.length ≤ 9223372036854775807 := (Kd.R_reads' HRo.out).2.2.2.1
      by_cases hlt : j < t.length
      · have hltz : (j : Int) < (t.length : Int) := by omega
        have hl := HF.out
        rw [List.drop_eq_getElem_cons hlt, fillL] at hl
        obtain ⟨ad, e1, hx0, hx1, hx2⟩ := at_T46 HC.out (j : Int) (by omega) hltz
        cases e1
        rw [Int.toNat_natCast] at hx0 hx1 hx2
        have ey : rd_T46 t (j : Int) = t[j] := by simp [rd_T46, List.getD, hlt]
        rw [ey] at hx0 hx1 hx2
        generalize t[j] = y at hx0 hx1 hx2 hl
        replace hx0 := (HBr.out.cell (World.block_lt_of_cell? w0 _ hx0)).trans hx0
        replace hx1 := (HBr.out.cell (World.block_lt_of_cell? w0 _ hx1)).trans hx1
        replace hx2 := (HBr.out.cell (World.block_lt_of_cell? w0 _ hx2)).trans hx2
        have had := World.block_lt_of_cell? wr _ hx0
        rw [add_block] at had
        have HL := Aside0.mk hl
        clear hl ey
        have HBA : ∀ ob, Aside0 (Below wr.heap.size wr (wr.alloc ob)) := fun ob => ⟨(Below.refl _ _).alloc (Nat.le_refl _) ob⟩
        by_cases h40 : 40 < o.length
        · have h40z : (40 : Int) < (o.length : Int) := by omega
          go_wp2
          go_ret
          have h1 := HL.out
          rw [if_pos h40] at h1
          obtain rfl := Option.some.inj h1
          exact ⟨_, rfl, Kd.R_below HRo.out (HBA _).out, HBr.out.trans ((HBA _).out.mono HBr.out.size)⟩
        · have h40z : ¬ (40 : Int) < (o.length : Int) := by omega
          have HL2 := Aside0.mk (HL.out.symm.trans (if_neg h40)).symm
          have HRb : ∀ W', Below wr.heap.size wr W' → Aside0 (Kd.R k46 46 W' w0.heap.size (fun _ => True) (.slice Ao o.length co) o) := fun W' hb => ⟨Kd.R_below HRo.out hb⟩
          have HBW := Aside0.mk (show ∀ W', Below wr.heap.size wr W' → Below w0.heap.size w0 W' from fun W' hb => HBr.out.trans (hb.mono HBr.out.size))
          by_cases hv : y.f0 = 1
          · have HV := Aside0.mk hv
            have hvt : (y.f0 == 1) = true := by simpa using hv
            have HL3 := Aside0.mk (HL2.out.symm.trans (if_pos hv)).symm
            clear hv
            cases hg : getL s y.f1 with
            | none =>
              have hl4 := HL3.out
              rw [hg] at hl4
              have HL4 := Aside0.mk hl4
              have HG := Aside0.mk hg
              clear hl4 hg
              go_wp2_with (first
                | (go_at_call 103; refine (get_calls0 A0 c0 s y.f1 w0 _ hs (HBW.out _ (HBA _).out)).mono ?_; rintro e w' ⟨hq, hb⟩; obtain rfl : e = .returned (.slice none 0 0) := (by rcases hq with ⟨_, e1⟩ | ⟨t1, A1, c1, e1, _⟩; exact e1; rw [HG.out] at e1; cases e1); have HBG := Aside0.mk ((HBA _).out.trans (hb.mono (HBA _).out.size)); have hc5 : w'.cell? ⟨wr.heap.size, 0, none⟩ = some (.int .i64 y.f0) := (hb.cell (p := ⟨wr.heap.size, 0, none⟩) (by simp)).trans (by simp [go_sem]); have hc6 : w'.cell? ⟨wr.heap.size, 1, none⟩ = some (.int .i64 y.f1) := (hb.cell (p := ⟨wr.heap.size, 1, none⟩) (by simp)).trans (by simp [go_sem]); have hc7 : w'.cell? ⟨wr.heap.size, 2, none⟩ = some (.string y.f2) := (hb.cell (p := ⟨wr.heap.size, 2, none⟩) (by simp)).trans (by simp [go_sem]); have hgs := hb.size; clear hb hq)
                | ((with_reducible refine gate_builtin (b := .append) (xs := #[.tmp 33, .tmp 35]) rfl ?_); at_builtin; refine Kd.R_append k46 (w0 := w0) w0.heap.size rfl (.tmp 33) (.tmp 35) 26 46 (.agg #[(.int .i64 0), (.int .i64 0), (.string ⟨#[]⟩)]) 32 rfl Tryd.underlying26 info46 rfl (by decide) (by omega) (.slice Ao o.length co) o y [.int .i64 y.f0, .int .i64 y.f1, .string y.f2] (fun _ => True) (fun _ => False) rfl (by first | rfl | (simp [go_sem]; done) | (go_simp; done)) ?aP (fun _ hk => hk.elim) ?aF ?aO ?aB ?aS ?aL ?_; (case aP => exact k46_mkM _ _ _ y); (case aF => exact fun _ _ => trivial); (case aO => exact (HRb _ HBG.out).out); (case aB => exact HBW.out _ HBG.out); (case aS => exact Nat.le_trans HBr.out.size HBG.out.size); (case aL => omega); intro v9 w9 ho9 hb9 hg9 hat9; clear hg9 hat9))
              go_roundg (t.length - (j + 1))
              case measure => omega
              case rel =>
                exact ⟨j + 1, _, by omega, by omega, by go_num, ⟨ho9⟩, ⟨hb9⟩, HL4⟩
            | some t1 =>
              have hl4 := HL3.out
              rw [hg] at hl4
              replace hl4 : (if t1 = [] then none else (fillF s k o t1).bind fun o => fillL (fillF s k) (getL s) o (t.drop (j + 1))) = some r := hl4
              have HG := Aside0.mk hg
              have ht1 : t1 ≠ [] := by
                intro e1
                rw [e1] at hl4
                simp at hl4
              have hl5 := hl4
              rw [if_neg ht1] at hl5
              obtain ⟨o1, ho1, ho2⟩ := Option.bind_eq_some_iff.1 hl5
              have HO1 := Aside0.mk ho1
              have HL4 := Aside0.mk ho2
              clear ho1 ho2 hl4 hl5 hg
              go_wp2_with (first
                | (go_at_call 103; refine (get_calls0 A0 c0 s y.f1 w0 _ hs (HBW.out _ (HBA _).out)).mono ?_; rintro e w' ⟨hq, hb⟩; obtain ⟨A1, c1, rfl, hc1, hC1⟩ : ∃ A1 c1, e = .returned (.slice A1 t1.length c1) ∧ t1.length ≤ c1 ∧ Kd.C k46 w0 A1 t1.length t1 := (by rcases hq with ⟨hn, _⟩ | ⟨t2, A1, c1, h2, e1, h3, h4⟩; (rw [HG.out] at hn; cases hn); (rw [HG.out] at h2; injection h2 with h2; subst h2; exact ⟨A1, c1, e1, by assumption, by assumption⟩)); obtain ⟨ad1, rfl⟩ := cells_pos hC1 ht1; have HC1 := Aside0.mk hC1; have HBG := Aside0.mk ((HBA _).out.trans (hb.mono (HBA _).out.size)); clear hq hb hC1)
                | (go_at_call 96; refine (HI.out o t1 o1 (.slice Ao o.length co) (some ad1) c1 _ HO1.out (HRb _ HBG.out).out (HBW.out _ HBG.out) HC1.out hc1).mono ?_; rintro e w9 ⟨v9, rfl, ho9, hb9⟩))
              go_roundg (t.length - (j + 1))
              case measure => omega
              case rel =>
                exact ⟨j + 1, _, by omega, by omega, by go_num, ⟨ho9⟩, ⟨hb9⟩, HL4⟩
          · have hvf : (y.f0 == 1) = false := by simpa using hv
            have HL4 := Aside0.mk (HL2.out.symm.trans (if_neg hv)).symm
            clear hv
            have HBG : Aside0 (Below wr.heap.size wr (wr.alloc (.cells #[.int .i64 y.f0, .int .i64 y.f1, .string y.f2] 46))) := HBA _
            go_wp2_with (first
              | ((with_reducible refine gate_builtin (b := .append) (xs := #[.tmp 33, .tmp 35]) rfl ?_); at_builtin; refine Kd.R_append k46 (w0 := w0) w0.heap.size rfl (.tmp 33) (.tmp 35) 26 46 (.agg #[(.int .i64 0), (.int .i64 0), (.string ⟨#[]⟩)]) 32 rfl Tryd.underlying26 info46 rfl (by decide) (by omega) (.slice Ao o.length co) o y [.int .i64 y.f0, .int .i64 y.f1, .string y.f2] (fun _ => True) (fun _ => False) rfl (by first | rfl | (simp [go_sem]; done) | (go_simp; done)) ?aP (fun _ hk => hk.elim) ?aF ?aO ?aB ?aS ?aL ?_; (case aP => exact k46_mkM _ _ _ y); (case aF => exact fun _ _ => trivial); (case aO => exact (HRb _ HBG.out).out); (case aB => exact HBW.out _ HBG.out); (case aS => exact Nat.le_trans HBr.out.size HBG.out.size); (case aL => omega); intro v9 w9 ho9 hb9 hg9 hat9; clear hg9 hat9))
            go_roundg (t.length - (j + 1))
            case measure => omega
            case rel =>
              exact ⟨j + 1, _, by omega, by omega, by go_num, ⟨ho9⟩, ⟨hb9⟩, HL4⟩
      · have hltz : ¬ (j : Int) < (t.length : Int) := by omega
        have hl := HF.out
        rw [List.drop_eq_nil_of_le (by omega), fillL] at hl
        obtain rfl := Option.some.inj hl
        clear hl
        go_wp2
        go_ret
        exact ⟨_, rfl, HRo.out, HBr.out⟩

/-! ### impl_bindings_full: function 75 -/
/-- a term with what is bound; false, if it is too big -/
def impl_bindings_full.f (k : Nat) (l0 : List (S30)) (l1 : List (S46)) : Option (List (S46) × Bool) :=
  (fillF l0 k [] l1).bind fun o => if 40 < o.length then some ([], false) else some (o, true)
theorem fillL_mono {f g : List Cat.Cell → List Cat.Cell → Option (List Cat.Cell)} (h : ∀ o t, LeO (f o t) (g o t)) (gt : Int → Option (List Cat.Cell)) : ∀ (t out : List Cat.Cell), LeO (fillL f gt out t) (fillL g gt out t)
  | [], out => LeO.refl _
  | c :: l, out => by
    rw [fillL, fillL]
    by_cases h40 : 40 < out.length
    · rw [if_pos h40, if_pos h40]; exact LeO.refl _
    · rw [if_neg h40, if_neg h40]
      by_cases hv : c.f0 = 1
      · rw [if_pos hv, if_pos hv]
        cases gt c.f1 with
        | none => exact fillL_mono h gt l _
        | some t =>
          show LeO (if t = [] then none else (f out t).bind fun o => fillL f gt o l) (if t = [] then none else (g out t).bind fun o => fillL g gt o l)
          by_cases ht : t = []
          · rw [if_pos ht, if_pos ht]; exact LeO.refl _
          · rw [if_neg ht, if_neg ht]
            exact LeO.bind (h out t) (fun o => fillL_mono h gt l o)
      · rw [if_neg hv, if_neg hv]
        exact fillL_mono h gt l _
theorem fillF_mono (s : List Cat.Bind) : ∀ (k : Nat) (out t : List Cat.Cell), LeO (fillF s k out t) (fillF s (k + 1) out t)
  | 0, _, _ => LeO.none _
  | k + 1, out, t => fillL_mono (fillF_mono s k) _ t out
theorem impl_bindings_full.mono : ∀ a0 a1 k, LeO (impl_bindings_full.f k a0 a1) (impl_bindings_full.f (k + 1) a0 a1) := fun a0 a1 k => LeO.bind (fillF_mono a0 k [] a1) (fun _ => LeO.refl _)
set_option maxHeartbeats 4000000 in
set_option maxRecDepth 100000 in
theorem impl_bindings_full.calls (k : Nat) (A0 : Option Addr) (c0 : Nat) (l0 : List (S30)) (A1 : Option Addr) (c1 : Nat) (l1 : List (S46)) (r1 : List (S46)) (r2 : Bool) (w : World) (hr0 : Kd.C k30 w A0 l0.length l0) (hc0 : l0.length ≤ c0) (hr1 : Kd.C k46 w A1 l1.length l1) (hc1 : l1.length ≤ c1) (h : impl_bindings_full.f k l0 l1 = some (r1, r2)) :
    Calls Tryd.prog 75 #[.slice A0 l0.length c0, .slice A1 l1.length c1] w fun e w' => ∃ v0_ : Value, e = .returned (.tuple #[v0_, .bool r2]) ∧ Kd.R k46 46 w' w.heap.size (fun _ => True) v0_ r1 ∧ Below w.heap.size w w' := by
  unfold impl_bindings_full.f at h
  obtain ⟨o, ho, h2⟩ := Option.bind_eq_some_iff.1 h
  have HO := Aside0.mk ho
  have H2 := Aside0.mk h2
  have HR0 := Aside0.mk hr0
  have HR1 := Aside0.mk hr1
  clear h ho h2 hr0 hr1
  go_enter Tryd.func75, Tryd.ntmps75
  by_cases h40 : 40 < o.length
  · have h40z : (40 : Int) < (o.length : Int) := by omega
    have H3 := H2.out
    rw [if_pos h40] at H3
    injection H3 with H3
    injection H3 with e1 e2
    subst e1 e2
    go_wp2_with (go_at_call 96; refine (fill_any w A0 c0 l0 HR0.out k [] l1 o (.slice none 0 0) A1 c1 _ HO.out (Kd.R_nil _ _ _ _ _) (by repeat (first | exact Below.refl _ _ | refine Below.alloc ?_ (by simp) _)) HR1.out hc1).mono ?_; rintro e w9 ⟨v9, rfl, ho9, hb9⟩; obtain ⟨A9, c9, rfl⟩ := Kd.R_slice ho9; have hm9 := (Kd.R_reads' ho9).2.2.2.1; have HO9 := Aside0.mk ho9; have HB9 := Aside0.mk hb9; clear ho9 hb9)
    go_ret2
    exact ⟨_, rfl, Kd.R_nil _ _ _ _ _, HB9.out⟩
  · have h40z : ¬ (40 : Int) < (o.length : Int) := by omega
    have H3 := H2.out
    rw [if_neg h40] at H3
    injection H3 with H3
    injection H3 with e1 e2
    subst e1 e2
    go_wp2_with (go_at_call 96; refine (fill_any w A0 c0 l0 HR0.out k [] l1 o (.slice none 0 0) A1 c1 _ HO.out (Kd.R_nil _ _ _ _ _) (by repeat (first | exact Below.refl _ _ | refine Below.alloc ?_ (by simp) _)) HR1.out hc1).mono ?_; rintro e w9 ⟨v9, rfl, ho9, hb9⟩; obtain ⟨A9, c9, rfl⟩ := Kd.R_slice ho9; have hm9 := (Kd.R_reads' ho9).2.2.2.1; have HO9 := Aside0.mk ho9; have HB9 := Aside0.mk hb9; clear ho9 hb9)
    go_ret2
    exact ⟨_, rfl, HO9.out, HB9.out⟩

/-! ### slices_Clip_bindings: function 94 -/
/-- slices.Clip: the same, without room -/
theorem clip_run (W : World) (A : Option Addr) (n c : Nat) (h : n ≤ c) : (Instr.slice 85 (.slice A n c) none (some (.int .i64 n)) (some (.int .i64 n))).run Tryd.prog W = .ok (.slice A n n) W := by
  obtain ⟨i, hi, hzz⟩ := Option.map_eq_some_iff.1 info30
  have hel : Tryd.prog.elem 85 = 30 := by simp [Program.elem, Tryd.underlying85]
  have hu : Tryd.prog.underlying 85 = some (.slice (Tryd.prog.elem 85)) := by rw [hel]; exact Tryd.underlying85
  have ha : (A.map fun x => x.add 0) = A := by cases A <;> simp [Addr.add]
  rw [run_slice_hm W 85 A n c hu .i64 .i64 n n (by omega) (by omega) (by omega), hel]
  simp [sizeOf, typeInfo, hi, sliced, Result.andThen, ha]
theorem clip_calls (A : Option Addr) (n c : Nat) (w : World) (h : n ≤ c) (hn : n ≤ 9223372036854775807) : Calls Tryd.prog 94 #[.slice A n c] w fun e w' => e = .returned (.slice A n n) ∧ w' = w := by
  have hrun := fun W => clip_run W A n c h
  clear h
  go_enter Tryd.func94, Tryd.ntmps94
  go_wp2
  go_ret
  exact ⟨rfl, rfl⟩

end Go.Proofs.YtlaicnoikeieeaaDoor.P
