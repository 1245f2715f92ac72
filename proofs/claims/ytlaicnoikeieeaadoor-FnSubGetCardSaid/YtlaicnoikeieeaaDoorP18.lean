/- Contracts of functions of the program: each as a Lean function, and that its call does what that says; printed by cprint.py (this session) over print.py of the kit. Conditions: the hypotheses of each theorem. -/
import Derived.Test.YtlaicnoikeieeaaDoorP0
import Derived.Test.YtlaicnoikeieeaaDoorP3
import Derived.Test.YtlaicnoikeieeaaDoorP4
import Derived.Test.YtlaicnoikeieeaaDoorP5
namespace Go.Proofs.YtlaicnoikeieeaaDoor.P
open Go.RowKit Go.Proofs.YtlaicnoikeieeaaDoorW.PrintWords Go.Proofs.YtlaicnoikeieeaaDoorW.PrintLast Go.Proofs.YtlaicnoikeieeaaDoorW.PrintMore
attribute [local go_sem] max2_int min2_int max_two min_two max_three min_three max_four min_four   -- for this text's walks alone
set_option linter.unusedVariables false
set_option linter.unusedSimpArgs false

/-! ### spec_l1Arg: function 107 -/
mutual
def spec_l1Arg.j0 : Nat → List (S46) → Int → Bool → Option ((List (S46)))
 | 0, _, _, _ => none
 | k + 1, x0, x1, x23 => if x23 = true then (some (([] : List (S46)))) else (spec_l1Arg.l0 k x0 x1 1 0)
def spec_l1Arg.l0 : Nat → List (S46) → Int → Int → Int → Option ((List (S46)))
 | 0, _, _, _, _ => none
 | k + 1, x0, x1, x5, x6 => if x6 < x1 then ((spec_l1End.f k x0 x5).bind fun t256 => (spec_l1Arg.l0 k x0 x1 t256 (wrap64 (x6 + 1)))) else ((some (([] : List (S46)) : List (S46))).bind fun y257 => ((spec_l1End.f k x0 x5).bind fun t260 => (if 0 ≤ x5 then (if x5 ≤ t260 then (if t260 ≤ (x0.length : Int) then ((some ((x0.take (t260 : Int).toNat).drop (x5 : Int).toNat : List (S46))).bind fun y261 => (if y257.length + y261.length < 4398046511104 then (some (y257 ++ y261)) else (none))) else (none)) else (none)) else (none))))
end
def spec_l1Arg.f (k : Nat) (l0 : List (S46)) (a1 : Int) : Option ((List (S46))) := if 0 < (l0.length : Int) then (if ((rd_T46 l0 0).f0) = 3 then (if a1 < 0 then (spec_l1Arg.j0 k l0 a1 true) else (spec_l1Arg.j0 k l0 a1 (decide (a1 ≥ ((rd_T46 l0 0).f1))))) else (spec_l1Arg.j0 k l0 a1 true)) else (none)
set_option maxHeartbeats 8000000 in
set_option maxRecDepth 100000 in
theorem spec_l1Arg.calls (k : Nat) (A0 : Option Addr) (c0 : Nat) (l0 : List (S46)) (a1 : Int) (r : List (S46)) (w : World) (hr0 : Kd.C k46 w A0 l0.length l0) (hc0 : l0.length ≤ c0) (h : spec_l1Arg.f k l0 a1 = some r) :
  Calls Tryd.prog 107 #[.slice A0 l0.length c0, .int .i64 a1] w fun e w' => ∃ v0_ : Value, e = .returned (v0_) ∧ Kd.R k46 46 w' w.heap.size (fun _ => True) v0_ r ∧ Below w.heap.size w w' := by
 have HR0 := Aside0.mk hr0
 have HC0 := Aside0.mk hc0
 clear hr0 hc0
 have HB := Aside0.mk (Below.refl w.heap.size w)
 have H : (if 0 < (l0.length : Int) then (if ((rd_T46 l0 0).f0) = 3 then (if a1 < 0 then (spec_l1Arg.j0 k l0 a1 true) else (spec_l1Arg.j0 k l0 a1 (decide (a1 ≥ ((rd_T46 l0 0).f1))))) else (spec_l1Arg.j0 k l0 a1 true)) else (none)) = some r := h
 clear h
 have HC3 := Aside0.mk H
 clear H
 go_enter Tryd.func107, Tryd.ntmps107
 go_upto_region 1 with (fail)
 go_cut [23] (fun v23 wc => ∃ (kq : Nat) (x23_2 : Bool), v23 = .bool x23_2 ∧ Aside0 (spec_l1Arg.j0 kq l0 a1 x23_2 = some r) ∧ Aside0 (kq ≤ k) ∧ Aside0 (Below w.heap.size w wc))
 case first =>
  have H := HC3.out
  clear HC3
  by_cases c4 : 0 < (l0.length : Int)
  ·rw [if_pos c4] at H
   have c4b0 : decide (0 < (l0.length : Int)) = true := decide_eq_true c4
   have c4b1 : decide (0 < l0.length) = true := decide_eq_true (by omega)
   clear c4
   (first | rw [c4b0] | (simp only [i64_w, i32_w]; rw [c4b0]) | skip)
   by_cases c5 : ((rd_T46 l0 0).f0) = 3
   ·rw [if_pos c5] at H
    have c5b0 : (((rd_T46 l0 0).f0) == 3) = true := beq_iff_eq.mpr c5
    have c5b1 : (((rd_T46 l0 0).f0) != 3) = false := bne_eq_false_iff_eq.mpr c5
    clear c5
    by_cases c6 : a1 < 0
    ·rw [if_pos c6] at H
     have c6b0 : decide (a1 < 0) = true := decide_eq_true c6
     clear c6
     have H' := Aside0.mk H
     clear H
     have p251 : 0 ≤ (0 : Int) := (by omega)
     have q251 : 0 < (l0.length : Int) := of_decide_eq_true (by first | (with_reducible assumption) | assumption)
     obtain ⟨ad251, e251, hx251_0, hx251_1, hx251_2⟩ := at_T46 HR0.out 0 p251 q251
     cases e251
     have qi251 : (0 < l0.length) = True := eq_true (by omega)
     (try rw [show ((0 : Int)).toNat = 0 from rfl] at hx251_0)
     (try rw [show 0 * 3 = 0 from rfl] at hx251_0)
     (try rw [Addr.add_zero'] at hx251_0)
     (try rw [show ((0 : Int)).toNat = 0 from rfl] at hx251_1)
     (try rw [show 0 * 3 = 0 from rfl] at hx251_1)
     (try rw [Addr.add_zero'] at hx251_1)
     (try rw [show ((0 : Int)).toNat = 0 from rfl] at hx251_2)
     (try rw [show 0 * 3 = 0 from rfl] at hx251_2)
     (try rw [Addr.add_zero'] at hx251_2)
     replace hx251_0 := (HB.out.cell (World.block_lt_of_cell? w _ hx251_0)).trans hx251_0
     replace hx251_1 := (HB.out.cell (World.block_lt_of_cell? w _ hx251_1)).trans hx251_1
     replace hx251_2 := (HB.out.cell (World.block_lt_of_cell? w _ hx251_2)).trans hx251_2
     replace p251 := eq_true p251
     replace q251 := eq_true q251
     go_wp2
     go_meet
     case rel => exact ⟨_, (true), (by first | rfl | (simp; done) | (simp [*]; done)), H', ⟨by first | omega | exact Nat.le_refl _⟩, ⟨by repeat (first | (with_reducible first | exact HB.out | apply below_alloc | apply pw_below_drewN | apply below_drew1) | exact HB.out)⟩⟩
    ·rw [if_neg c6] at H
     have c6b0 : decide (a1 < 0) = false := decide_eq_false c6
     clear c6
     have H' := Aside0.mk H
     clear H
     have p251 : 0 ≤ (0 : Int) := (by omega)
     have q251 : 0 < (l0.length : Int) := of_decide_eq_true (by first | (with_reducible assumption) | assumption)
     obtain ⟨ad251, e251, hx251_0, hx251_1, hx251_2⟩ := at_T46 HR0.out 0 p251 q251
     cases e251
     have qi251 : (0 < l0.length) = True := eq_true (by omega)
     (try rw [show ((0 : Int)).toNat = 0 from rfl] at hx251_0)
     (try rw [show 0 * 3 = 0 from rfl] at hx251_0)
     (try rw [Addr.add_zero'] at hx251_0)
     (try rw [show ((0 : Int)).toNat = 0 from rfl] at hx251_1)
     (try rw [show 0 * 3 = 0 from rfl] at hx251_1)
     (try rw [Addr.add_zero'] at hx251_1)
     (try rw [show ((0 : Int)).toNat = 0 from rfl] at hx251_2)
     (try rw [show 0 * 3 = 0 from rfl] at hx251_2)
     (try rw [Addr.add_zero'] at hx251_2)
     replace hx251_0 := (HB.out.cell (World.block_lt_of_cell? w _ hx251_0)).trans hx251_0
     replace hx251_1 := (HB.out.cell (World.block_lt_of_cell? w _ hx251_1)).trans hx251_1
     replace hx251_2 := (HB.out.cell (World.block_lt_of_cell? w _ hx251_2)).trans hx251_2
     replace p251 := eq_true p251
     replace q251 := eq_true q251
     have p252 : 0 ≤ (0 : Int) := (by omega)
     have q252 : 0 < (l0.length : Int) := of_decide_eq_true (by first | (with_reducible assumption) | assumption)
     obtain ⟨ad252, e252, hx252_0, hx252_1, hx252_2⟩ := at_T46 HR0.out 0 p252 q252
     obtain rfl : ad251 = ad252 := (by injection e252)
     have qi252 : (0 < l0.length) = True := eq_true (by omega)
     (try rw [show ((0 : Int)).toNat = 0 from rfl] at hx252_0)
     (try rw [show 0 * 3 = 0 from rfl] at hx252_0)
     (try rw [Addr.add_zero'] at hx252_0)
     (try rw [show ((0 : Int)).toNat = 0 from rfl] at hx252_1)
     (try rw [show 0 * 3 = 0 from rfl] at hx252_1)
     (try rw [Addr.add_zero'] at hx252_1)
     (try rw [show ((0 : Int)).toNat = 0 from rfl] at hx252_2)
     (try rw [show 0 * 3 = 0 from rfl] at hx252_2)
     (try rw [Addr.add_zero'] at hx252_2)
     replace hx252_0 := (HB.out.cell (World.block_lt_of_cell? w _ hx252_0)).trans hx252_0
     replace hx252_1 := (HB.out.cell (World.block_lt_of_cell? w _ hx252_1)).trans hx252_1
     replace hx252_2 := (HB.out.cell (World.block_lt_of_cell? w _ hx252_2)).trans hx252_2
     replace p252 := eq_true p252
     replace q252 := eq_true q252
     go_wp2
     go_meet
     case rel => exact ⟨_, (decide (a1 ≥ ((rd_T46 l0 0).f1))), (by first | rfl | (simp; done) | (simp [*]; done)), H', ⟨by first | omega | exact Nat.le_refl _⟩, ⟨by repeat (first | (with_reducible first | exact HB.out | apply below_alloc | apply pw_below_drewN | apply below_drew1) | exact HB.out)⟩⟩
   ·rw [if_neg c5] at H
    have c5b0 : (((rd_T46 l0 0).f0) == 3) = false := beq_eq_false_iff_ne.mpr c5
    have c5b1 : (((rd_T46 l0 0).f0) != 3) = true := bne_iff_ne.mpr c5
    have H' := Aside0.mk H
    clear H
    have p251 : 0 ≤ (0 : Int) := (by omega)
    have q251 : 0 < (l0.length : Int) := of_decide_eq_true (by first | (with_reducible assumption) | assumption)
    obtain ⟨ad251, e251, hx251_0, hx251_1, hx251_2⟩ := at_T46 HR0.out 0 p251 q251
    cases e251
    have qi251 : (0 < l0.length) = True := eq_true (by omega)
    (try rw [show ((0 : Int)).toNat = 0 from rfl] at hx251_0)
    (try rw [show 0 * 3 = 0 from rfl] at hx251_0)
    (try rw [Addr.add_zero'] at hx251_0)
    (try rw [show ((0 : Int)).toNat = 0 from rfl] at hx251_1)
    (try rw [show 0 * 3 = 0 from rfl] at hx251_1)
    (try rw [Addr.add_zero'] at hx251_1)
    (try rw [show ((0 : Int)).toNat = 0 from rfl] at hx251_2)
    (try rw [show 0 * 3 = 0 from rfl] at hx251_2)
    (try rw [Addr.add_zero'] at hx251_2)
    replace hx251_0 := (HB.out.cell (World.block_lt_of_cell? w _ hx251_0)).trans hx251_0
    replace hx251_1 := (HB.out.cell (World.block_lt_of_cell? w _ hx251_1)).trans hx251_1
    replace hx251_2 := (HB.out.cell (World.block_lt_of_cell? w _ hx251_2)).trans hx251_2
    replace p251 := eq_true p251
    replace q251 := eq_true q251
    go_wp2
    go_meet
    case rel => exact ⟨_, (true), (by first | rfl | (simp; done) | (simp [*]; done)), H', ⟨by first | omega | exact Nat.le_refl _⟩, ⟨by repeat (first | (with_reducible first | exact HB.out | apply below_alloc | apply pw_below_drewN | apply below_drew1) | exact HB.out)⟩⟩
  ·rw [if_neg c4] at H
   exact absurd H (by simp)
 case rest =>
  clear HC3
  try clear c1
  try clear p2
  try clear q2
  try clear hx2
  try clear qi2
  try clear c4
  try clear c4b0
  try clear c4b1
  try clear c5
  try clear c5b0
  try clear c5b1
  try clear c6
  try clear c6b0
  try clear hx251_0
  try clear hx251_1
  try clear hx251_2
  try clear hx252_0
  try clear hx252_1
  try clear hx252_2
  try clear p251
  try clear p252
  try clear q251
  try clear q252
  obtain ⟨kq, x23_2, rfl, HA, HJ2, HB⟩ := hcut
  cases kq with
  | zero => exact absurd HA.out (by simp [spec_l1Arg.j0])
  | succ kj2 =>
   have H := HA.out
   clear HA
   simp only [spec_l1Arg.j0] at H
   by_cases c7 : x23_2 = true
   ·subst c7
    have H1 : (some (([] : List (S46)))) = some r := by rw [if_pos rfl] at H; exact H
    clear H
    have H := H1
    clear H1
    obtain ⟨y253, hy253⟩ : ∃ y_ : List (S46), y_ = (([] : List (S46))) := ⟨_, rfl⟩
    replace H : (some y253) = some r := by first | (rw [hy253]; with_reducible exact H) | (have H2_ := (Option.bind_some _ _).symm.trans H; rw [hy253]; with_reducible exact H2_) | (have H2_ := (Option.bind_some _ _).symm.trans H; with_reducible exact H2_) | with_reducible exact H | (rw [hy253]; exact H) | exact H
    have Ny253 := Aside0.mk hy253
    clear hy253
    obtain rfl := Option.some.inj H
    go_wp2_with (first | ((with_reducible refine gate_dst (N := 24) rfl ?_); refine Kd.R_lit k46 _ 46 ?hg (N := 24) ?hd (xs := ([] : List (S46))) (inner := []) (ok := fun _ => True) (okp := fun _ => True) ?hr ?hp (fun _ hk => hk) trivial (Below.refl _ _) (Nat.le_refl _) (by simp) ?_; (case hd => rfl); (case hg => rfl); (case hr => first | (go_simp; done) | (go_simp; rfl)); (case hp => exact (Reps.none _ _)); intro v254 w8 ho9 hb hg_ hnew_; clear hg_ hnew_; (first | rw [← Ny253.out] at ho9 | (simp only [Int.reduceToNat] at ho9; rw [← Ny253.out] at ho9)); have n0_ := Aside0.mk (Kd.R_lower ho9 (below_size (by repeat first | exact HB.out | apply below_alloc | apply pw_below_drewN | apply below_drew1))); have n1_ := Aside0.mk (below_step (by repeat first | exact HB.out | apply below_alloc | apply pw_below_drewN | apply below_drew1) hb); clear HB; have HO255 := n0_; have HB := n1_; clear n0_ n1_; clear hb ho9))
    go_ret
    exact ⟨_, by first | rfl | (simp [errW_none, errW_some] <;> rfl) | (simp [*, errW_none, errW_some] <;> rfl), by (with_reducible repeat (first | apply Kd.R_alloc | apply Kd.R_drewN | apply Kd.R_drew)); exact HO255.out, by repeat (first | (with_reducible first | exact HB.out | apply below_alloc | apply pw_below_drewN | apply below_drew1) | exact HB.out)⟩
   ·replace c7 := Bool.eq_false_iff.mpr c7
    subst c7
    have H1 : (spec_l1Arg.l0 kj2 l0 a1 1 0) = some r := by rw [if_neg (show ¬ (false = true) by decide)] at H; exact H
    clear H
    have H := H1
    clear H1
    have H' := Aside0.mk H
    clear H
    go_wp2
    go_loopg [5, 6] kj2 (fun kq v5 v6 w' => ∃ (x5_2 : Int) (x6_2 : Int), v5 = .int .i64 x5_2 ∧ v6 = .int .i64 x6_2 ∧ Aside0 (spec_l1Arg.l0 kq l0 a1 x5_2 x6_2 = some r) ∧ Aside0 (kq ≤ kj2) ∧ Aside0 (Below w.heap.size w w'))
    case atStart => exact ⟨(1), (0), (by first | rfl | (simp; done) | (simp [*]; done)), (by first | rfl | (simp; done) | (simp [*]; done)), H', ⟨Nat.le_refl _⟩, ⟨by repeat (first | (with_reducible first | exact HB.out | apply below_alloc | apply pw_below_drewN | apply below_drew1) | exact HB.out)⟩⟩
    case round =>
     clear H'
     try clear c1
     try clear p2
     try clear q2
     try clear hx2
     try clear qi2
     try clear c4
     try clear c4b0
     try clear c4b1
     try clear c5
     try clear c5b0
     try clear c5b1
     try clear c6
     try clear c6b0
     try clear c7
     try clear hx251_0
     try clear hx251_1
     try clear hx251_2
     try clear hx252_0
     try clear hx252_1
     try clear hx252_2
     try clear p2
     try clear p251
     try clear p252
     try clear q2
     try clear q251
     try clear q252
     obtain ⟨x5_2, x6_2, rfl, rfl, HA, HK2, HB⟩ := hrel
     cases gk with
     | zero => exact absurd HA.out (by simp [spec_l1Arg.l0])
     | succ k2 =>
      have H := HA.out
      clear HA
      simp only [spec_l1Arg.l0] at H
      by_cases c10 : x6_2 < a1
      ·rw [if_pos c10] at H
       have c10b0 : decide (x6_2 < a1) = true := decide_eq_true c10
       clear c10
       replace H := Option.bind_eq_some_iff.mp H
       obtain ⟨t256, A110, H⟩ := H
       replace H : (spec_l1Arg.l0 k2 l0 a1 t256 (wrap64 (x6_2 + 1))) = some r := H
       have A11 := Aside0.mk A110
       clear A110
       have H' := Aside0.mk H
       clear H
       go_wp2_with (first | ((with_reducible refine gate_callee (f := 68) rfl ?_); refine goesL_ (some 32) rfl rfl Tryd.func68 (by kernel_rfl) rfl #[.slice A0 l0.length c0, .int .i64 x5_2] rfl (by (try simp only [List.map_toArray, List.map_cons, List.map_nil]); first | done | rfl | (simp only [List.length_drop, List.length_take]; rfl)) ?_; (with_reducible refine (spec_l1End.calls k2 _ _ l0 x5_2 t256 _ ?side1 ?side2 A11.out).mono ?_); (case side1 => repeat (first | exact (Kd.C_below HR0.out HB.out) | (with_reducible refine Kd.C_alloc ?_ _) | (with_reducible refine Kd.C_drewN ?_ _) | (with_reducible refine Kd.C_drew ?_))); (case side2 => exact HC0.out); rintro e w' ⟨rfl, ⟨nd, rfl⟩⟩; refine ⟨_, rfl, ?_⟩))
       go_roundg k2
       case measure => have := HJ2.out; have := HK2.out; omega
       case rel => exact ⟨(t256), (wrap64 (x6_2 + 1)), (by first | rfl | (simp; done) | (simp [*]; done)), (by first | rfl | (simp; done) | (simp [*]; done)), H', ⟨by have := HJ2.out; have := HK2.out; omega⟩, ⟨by repeat (first | (with_reducible first | exact HB.out | apply below_alloc | apply pw_below_drewN | apply below_drew1) | exact HB.out)⟩⟩
      ·rw [if_neg c10] at H
       have c10b0 : decide (x6_2 < a1) = false := decide_eq_false c10
       clear c10
       obtain ⟨y257, hy257⟩ : ∃ y_ : List (S46), y_ = (([] : List (S46))) := ⟨_, rfl⟩
       replace H : ((spec_l1End.f k2 l0 x5_2).bind fun t260 => (if 0 ≤ x5_2 then (if x5_2 ≤ t260 then (if t260 ≤ (l0.length : Int) then ((some ((l0.take (t260 : Int).toNat).drop (x5_2 : Int).toNat : List (S46))).bind fun y261 => (if y257.length + y261.length < 4398046511104 then (some (y257 ++ y261)) else (none))) else (none)) else (none)) else (none))) = some r := by first | (rw [hy257]; with_reducible exact H) | (have H2_ := (Option.bind_some _ _).symm.trans H; rw [hy257]; with_reducible exact H2_) | (have H2_ := (Option.bind_some _ _).symm.trans H; with_reducible exact H2_) | with_reducible exact H | (rw [hy257]; exact H) | exact H
       have Ny257 := Aside0.mk hy257
       clear hy257
       replace H := Option.bind_eq_some_iff.mp H
       obtain ⟨t260, A120, H⟩ := H
       replace H : (if 0 ≤ x5_2 then (if x5_2 ≤ t260 then (if t260 ≤ (l0.length : Int) then ((some ((l0.take (t260 : Int).toNat).drop (x5_2 : Int).toNat : List (S46))).bind fun y261 => (if y257.length + y261.length < 4398046511104 then (some (y257 ++ y261)) else (none))) else (none)) else (none)) else (none)) = some r := H
       have A12 := Aside0.mk A120
       clear A120
       by_cases c13 : 0 ≤ x5_2
       ·rw [if_pos c13] at H
        have c13b0 := eq_true c13
        have c13b1 : decide (0 ≤ x5_2) = true := decide_eq_true c13
        clear c13
        by_cases c14 : x5_2 ≤ t260
        ·rw [if_pos c14] at H
         have c14b0 := eq_true c14
         have c14b1 : decide (x5_2 ≤ t260) = true := decide_eq_true c14
         clear c14
         by_cases c15 : t260 ≤ (l0.length : Int)
         ·rw [if_pos c15] at H
          have c15b0 := eq_true c15
          have c15b1 : decide (t260 ≤ (l0.length : Int)) = true := decide_eq_true c15
          clear c15
          obtain ⟨y261, hy261⟩ : ∃ y_ : List (S46), y_ = ((l0.take (t260 : Int).toNat).drop (x5_2 : Int).toNat) := ⟨_, rfl⟩
          replace H : (if y257.length + y261.length < 4398046511104 then (some (y257 ++ y261)) else (none)) = some r := by first | (rw [hy261]; with_reducible exact H) | (have H2_ := (Option.bind_some _ _).symm.trans H; rw [hy261]; with_reducible exact H2_) | (have H2_ := (Option.bind_some _ _).symm.trans H; with_reducible exact H2_) | with_reducible exact H | (rw [hy261]; exact H) | exact H
          have Ny261 := Aside0.mk hy261
          clear hy261
          by_cases c16 : y257.length + y261.length < 4398046511104
          ·rw [if_pos c16] at H
           have LMc16 := Aside0.mk c16
           clear c16
           obtain ⟨y265, hy265⟩ : ∃ y_ : List (S46), y_ = (y257 ++ y261) := ⟨_, rfl⟩
           replace H : (some y265) = some r := by first | (rw [hy265]; with_reducible exact H) | (have H2_ := (Option.bind_some _ _).symm.trans H; rw [hy265]; with_reducible exact H2_) | (have H2_ := (Option.bind_some _ _).symm.trans H; with_reducible exact H2_) | with_reducible exact H | (rw [hy265]; exact H) | exact H
           have Ny265 := Aside0.mk hy265
           clear hy265
           obtain rfl := Option.some.inj H
           go_wp2_with (first | ((with_reducible refine gate_dst (N := 33) rfl ?_); refine Kd.R_lit k46 _ 46 ?hg (N := 33) ?hd (xs := ([] : List (S46))) (inner := []) (ok := fun _ => True) (okp := fun _ => True) ?hr ?hp (fun _ hk => hk) trivial (Below.refl _ _) (Nat.le_refl _) (by simp) ?_; (case hd => rfl); (case hg => rfl); (case hr => first | (go_simp; done) | (go_simp; rfl)); (case hp => exact (Reps.none _ _)); intro v258 w17 ho18 hb hg_ hnew_; clear hg_ hnew_; (first | rw [← Ny257.out] at ho18 | (simp only [Int.reduceToNat] at ho18; rw [← Ny257.out] at ho18)); have n0_ := Aside0.mk (Kd.R_lower ho18 (below_size (by repeat first | exact HB.out | apply below_alloc | apply pw_below_drewN | apply below_drew1))); have n1_ := Aside0.mk (below_step (by repeat first | exact HB.out | apply below_alloc | apply pw_below_drewN | apply below_drew1) hb); clear HB; have HO259 := n0_; have HB := n1_; clear n0_ n1_; clear hb ho18) | ((with_reducible refine gate_callee (f := 68) rfl ?_); refine goesL_ (some 38) rfl rfl Tryd.func68 (by kernel_rfl) rfl #[.slice A0 l0.length c0, .int .i64 x5_2] rfl (by (try simp only [List.map_toArray, List.map_cons, List.map_nil]); first | done | rfl | (simp only [List.length_drop, List.length_take]; rfl)) ?_; (with_reducible refine (spec_l1End.calls k2 _ _ l0 x5_2 t260 _ ?side1 ?side2 A12.out).mono ?_); (case side1 => repeat (first | exact (Kd.C_below HR0.out HB.out) | (with_reducible refine Kd.C_alloc ?_ _) | (with_reducible refine Kd.C_drewN ?_ _) | (with_reducible refine Kd.C_drew ?_))); (case side2 => exact HC0.out); rintro e w' ⟨rfl, ⟨nd, rfl⟩⟩; refine ⟨_, rfl, ?_⟩; have q19 : (t260 : Int) ≤ ((l0.length : Int) : Int) := of_decide_eq_true (by first | (with_reducible assumption) | assumption); obtain ⟨i019, hi019, _, hsz19, _⟩ := info_parts info46; have hroom19 : l0.length ≤ c0 := HC0.out; have hC19 : Kd.C k46 _ A0 l0.length l0 := HR0.out; have ql19 : (x5_2 : Int) ≤ (t260 : Int) := of_decide_eq_true (by first | (with_reducible assumption) | assumption); have q019 : (0 : Int) ≤ (x5_2 : Int) := of_decide_eq_true (by first | (with_reducible assumption) | assumption); have hcut19 := cut_mid (P := Tryd.prog) 26 46 .i64 .i64 Tryd.underlying26 hi019 3 hsz19 A0 l0.length c0 x5_2 t260 q019 ql19 q19 hroom19; have hr19 := Kd.C_mid (lo := (x5_2 : Int).toNat) (hi := (t260 : Int).toNat) (c := c0) hC19 (by omega) (by omega) hroom19; obtain ⟨A19, hA19⟩ : ∃ A1, A1 = (if c0 = (x5_2 : Int).toNat then A0 else (A0 : Option Addr).map (·.add ((x5_2 : Int).toNat * 3))) := ⟨_, rfl⟩; obtain ⟨c19, hc19⟩ : ∃ c1, c1 = c0 - (x5_2 : Int).toNat := ⟨_, rfl⟩; have hy19 : y261.length = (t260 : Int).toNat - (x5_2 : Int).toNat := (by rw [Ny261.out, List.length_drop, List.length_take] <;> omega); rw [show ((l0).take (t260 : Int).toNat).drop (x5_2 : Int).toNat = y261 from Ny261.out.symm] at hr19; replace hr19 : Kd.C k46 _ A19 y261.length y261 := (by rw [hA19]; exact hr19); rw [← hy19, ← hA19, ← hc19] at hcut19; have HR264 := Aside0.mk hr19; have HC264 := Aside0.mk (show y261.length ≤ c19 from by rw [hy19, hc19]; exact Nat.sub_le_sub_right (Nat.le_trans (by omega) hroom19) _); clear hr19 hC19 hroom19 hi019 hsz19 hc19; have KY19 := Aside0.mk hy19; have KA19 := Aside0.mk hA19; clear hy19 hA19; replace q19 := eq_true q19) | ((with_reducible refine gate_builtin (b := .append) (xs := #[.tmp 33, .tmp 39]) rfl ?_); at_builtin; refine Kd.R_append_rows k46 (w0 := w) w.heap.size rfl (.tmp 33) (.tmp 39) 26 46 (.agg #[(.int .i64 0), (.int .i64 0), (.string ⟨#[]⟩)]) 32 rfl Tryd.underlying26 info46 rfl (by decide) (by omega) v258 y257 y261 _ _ _ (fun _ => True) (fun _ => False) rfl rfl ?aO ?aR (fun _ _ h => h) (fun _ h => h.elim) ?aF ?aB ?aS ?aL ?_; (case aR => repeat (first | exact (Kd.C_below HR264.out (by repeat first | exact HB.out | apply below_alloc | apply pw_below_drewN | apply below_drew1)) | (with_reducible refine Kd.C_alloc ?_ _) | (with_reducible refine Kd.C_drewN ?_ _) | (with_reducible refine Kd.C_drew ?_))); (case aB => exact (by repeat first | exact HB.out | apply below_alloc | apply pw_below_drewN | apply below_drew1)); (case aF => exact (fun _ _ => trivial)); (case aO => exact (by (with_reducible repeat (first | apply Kd.R_alloc | apply Kd.R_drewN | apply Kd.R_drew)); exact HO259.out)); (case aS => exact (below_size (by repeat first | exact HB.out | apply below_alloc | apply pw_below_drewN | apply below_drew1))); (case aL => have := LMc16.out; omega); intro v266 w20 ho hb hg hat; rw [← Ny265.out] at ho; have n0_ := Aside0.mk (hb); have n1_ := Aside0.mk (ho); clear HB; clear HO259; have HB := n0_; have HO267 := n1_; clear n0_ n1_; clear ho hb hg hat))
           go_ret
           exact ⟨_, by first | rfl | (simp [errW_none, errW_some] <;> rfl) | (simp [*, errW_none, errW_some] <;> rfl), by (with_reducible repeat (first | apply Kd.R_alloc | apply Kd.R_drewN | apply Kd.R_drew)); exact HO267.out, by repeat (first | (with_reducible first | exact HB.out | apply below_alloc | apply pw_below_drewN | apply below_drew1) | exact HB.out)⟩
          ·rw [if_neg c16] at H
           exact absurd H (by simp)
         ·rw [if_neg c15] at H
          exact absurd H (by simp)
        ·rw [if_neg c14] at H
         exact absurd H (by simp)
       ·rw [if_neg c13] at H
        exact absurd H (by simp)

/-! ### spec_l2Bind: function 106 -/
/-- what l2Bind answers: none, if what is bound leads to the variable -/
def bind2F (K : Nat) (s : List Cat.Bind) (v : Int) (t : List Cat.Cell) : Option (Option (List Cat.Bind)) :=
 if s.length < 1000000000 ∧ t.length < 1000000000 then (spec_l2Leads.f K s t).bind fun ls => (spec_l1Has.f K ls v).bind fun q => some (if q = true then none else some (s ++ [⟨v, t⟩])) else none
/-- what l2Bind and l2Unify leave -/
def BPost (base : Nat) (W : World) (v : Value) (q : Option (List Cat.Bind)) (e : Ending) (w' : World) : Prop :=
 ∃ v1, e = .returned (.tuple #[v1, .bool q.isSome]) ∧ (∀ s', q = some s' → Kd.S k30 30 w' base (fun _ => True) v1 s') ∧ W.grownBy w' v.ownBlock ∧ (v1.ownBlock = v.ownBlock ∨ ∃ g, v1.ownBlock = some g ∧ W.heap.size ≤ g)
theorem below_grownS {w w' : World} (h : Below w.heap.size w w') (g : Option Nat) : w.grownBy w' g := ⟨h.os, h.tape, h.output, h.size, fun k hk _ => h.block k hk⟩
theorem grown_then {a b c : World} {g : Option Nat} (h : a.grownBy b g) (k : b.grownBy c g) : a.grownBy c g :=
 ⟨k.os.trans h.os, k.tape.trans h.tape, k.output.trans h.output, Nat.le_trans h.size k.size, fun i hi hg => (k.block i (Nat.lt_of_lt_of_le hi h.size) hg).trans (h.block i hi hg)⟩
theorem below_drawn {w w' : World} (h : Drawn0 w w') : Below w.heap.size w w' := by
 obtain ⟨n, rfl⟩ := h
 exact pw_below_drewN (Below.refl _ _) n
set_option maxHeartbeats 8000000 in
set_option maxRecDepth 100000 in
theorem spec_l2Bind.any (base : Nat) (v : Value) (s : List Cat.Bind) (W : World) (K : Nat) (b : Int) (t : List Cat.Cell) (A : Option Addr) (c : Nat) (q : Option (List Cat.Bind)) (hS : Kd.S k30 30 W base (fun _ => True) v s) (hbase : base ≤ W.heap.size)
  (hC : Kd.C k46 W A t.length t) (hl : t.length ≤ c) (h : bind2F K s b t = some q) : Calls Tryd.prog 106 #[v, .int .i64 b, .slice A t.length c] W (BPost base W v q) := by
 unfold bind2F at h
 by_cases hn : s.length < 1000000000 ∧ t.length < 1000000000
 case neg => rw [if_neg hn] at h; cases h
 rw [if_pos hn] at h
 obtain ⟨ls, h1, h2⟩ := Option.bind_eq_some_iff.1 h
 obtain ⟨q1, h3, h4⟩ := Option.bind_eq_some_iff.1 h2
 obtain rfl := Option.some.inj h4
 obtain ⟨Av, cv, ev⟩ := Kd.S_slice hS
 subst ev
 have HS := Aside0.mk hS
 have HC := Aside0.mk hC
 have HL := Aside0.mk hl
 have H1 := Aside0.mk h1
 have H3 := Aside0.mk h3
 have HN := Aside0.mk hn
 have HBS := Aside0.mk hbase
 have HSC := Aside0.mk (Kd.S_reads' hS)
 have HLT := Aside0.mk (show ∀ k, (Value.slice Av s.length cv).ownBlock = some k → k < W.heap.size from Kd.S_lt hS)
 clear h h1 h2 h3 h4 hS hC hl hn hbase
 cases q1 with
 | true =>
  go_enter Tryd.func106, Tryd.ntmps106
  go_wp2_with (first
   | (go_at_call 59; (with_reducible refine (spec_l2Leads.calls K Av cv s A c t ls W HSC.out.2.2 HSC.out.2.1 HC.out HL.out H1.out).mono ?_); rintro e w1 ⟨v1, rfl, ho1, hb1⟩; obtain ⟨A1, c1, rfl⟩ := Kd.R_slice ho1; have HO1 := Aside0.mk (Kd.R_reads' ho1); have HB1 := Aside0.mk hb1; clear ho1 hb1)
   | (go_at_call 58; (with_reducible refine (spec_l1Has.calls K A1 c1 ls b true _ HO1.out.2.2 HO1.out.2.1 H3.out).mono ?_); rintro e w2 ⟨rfl, hd2⟩; have HB2 := Aside0.mk (HB1.out.trans ((below_drawn hd2).mono HB1.out.size)); clear hd2))
  go_ret2
  exact ⟨_, rfl, (fun s' e => by cases e), below_grownS (below_alloc HB2.out _) _, .inr ⟨_, rfl, HB2.out.size⟩⟩
 | false =>
  go_enter Tryd.func106, Tryd.ntmps106
  go_wp2_with (first
   | (go_at_call 59; (with_reducible refine (spec_l2Leads.calls K Av cv s A c t ls W HSC.out.2.2 HSC.out.2.1 HC.out HL.out H1.out).mono ?_); rintro e w1 ⟨v1, rfl, ho1, hb1⟩; obtain ⟨A1, c1, rfl⟩ := Kd.R_slice ho1; have HO1 := Aside0.mk (Kd.R_reads' ho1); have HB1 := Aside0.mk hb1; clear ho1 hb1)
   | (go_at_call 58; (with_reducible refine (spec_l1Has.calls K A1 c1 ls b false _ HO1.out.2.2 HO1.out.2.1 H3.out).mono ?_); rintro e w2 ⟨rfl, hd2⟩; have HB2 := Aside0.mk (HB1.out.trans ((below_drawn hd2).mono HB1.out.size)); clear hd2)
   | ((with_reducible refine gate_dst (N := 16) rfl ?_); refine Kd.R_lit k46 (w0 := W) W.heap.size 46 ?hg (N := 16) ?hd (xs := ([] : List (S46))) (inner := []) (ok := fun k => W.heap.size ≤ k) (okp := fun k => W.heap.size ≤ k) ?hr ?hp (fun _ hk => hk) HB2.out.size HB2.out HB2.out.size (by simp) ?_; (case hd => rfl); (case hg => rfl); (case hr => first | (go_simp; done) | (go_simp; rfl)); (case hp => exact (Reps.none _ _)); intro v3 w3 ho hb hg_ hnew_; clear hg_ hnew_; have HO3 := Aside0.mk ho; have HB3 := Aside0.mk hb; clear ho hb)
   | ((with_reducible refine gate_builtin (b := .append) (xs := #[.tmp 16, .tmp 17]) rfl ?_); at_builtin; refine Kd.R_append_rows k46 (w0 := W) W.heap.size rfl (.tmp 16) (.tmp 17) 26 46 (.agg #[(.int .i64 0), (.int .i64 0), (.string ⟨#[]⟩)]) 32 rfl Tryd.underlying26 info46 rfl (by decide) (by omega) v3 [] t _ _ _ (fun k => W.heap.size ≤ k) (fun _ => False) rfl rfl ?aO ?aR (fun _ _ h => h) (fun _ h => h.elim) ?aF ?aB ?aS ?aL ?_; (case aR => exact Kd.C_below HC.out HB3.out); (case aB => exact HB3.out); (case aF => exact fun k hk => Nat.le_trans (HB3.out.size) hk); (case aO => exact HO3.out); (case aS => exact HB3.out.size); (case aL => have := HN.out.2; simp only [List.length_nil]; omega); intro v4 w4 ho hb hg hat; have HO4 := Aside0.mk ho; have HB4 := Aside0.mk hb; obtain ⟨A4, c4, ev4⟩ := Kd.R_slice HO4.out; subst ev4; clear ho hb hg hat)
   | ((with_reducible refine gate_builtin (b := .append) (xs := #[.tmp 14, .tmp 20]) rfl ?_); at_builtin; refine Kd.S_append k30 (w0 := W) base rfl (.tmp 14) (.tmp 20) 23 30 (.agg #[(.int .i64 0), (.slice none 0 0)]) 32 rfl Tryd.underlying23 info30 rfl (by decide) (by omega) (.slice Av s.length cv) s ⟨b, t⟩ [.int .i64 b, .slice A4 t.length c4] (fun _ => True) (fun k => W.heap.size ≤ k) rfl (by first | rfl | (simp [go_sem]; done) | (go_simp; done)) ?aP ?aK (fun _ _ => trivial) ?aO ?aB ?aS ?aL ?_; (case aP => exact k30_mkM _ _ _ ⟨b, t⟩ (Kd.R_lower HO4.out HBS.out)); (case aK => exact fun k hk => ⟨trivial, fun e => by have := HLT.out k e.symm; omega⟩); (case aO => exact Kd.S_mono (Kd.S_below (Kd.S_bound HS.out) HB4.out) (fun k hk => ⟨trivial, by have := hk.2.2.1; omega⟩)); (case aB => exact HB4.out.mono HBS.out); (case aS => exact Nat.le_trans HBS.out HB4.out.size); (case aL => have := HN.out.1; omega); intro v5 w5 ho5 hb5 hg5 hat5; have HO5 := Aside0.mk ho5; have HG5 := Aside0.mk (grown_then (below_grownS HB4.out _) hg5); have HA5 := Aside0.mk hat5; clear ho5 hb5 hg5 hat5))
  go_ret2
  refine ⟨v5, rfl, (fun s' e => by cases e; exact HO5.out), HG5.out, ?_⟩
  rcases HA5.out with h | ⟨g, h1, h2⟩
  ·exact .inl h
  ·exact .inr ⟨g, h1, Nat.le_trans HB4.out.size h2⟩

end Go.Proofs.YtlaicnoikeieeaaDoor.P
