/- Contracts of functions of the program: each as a Lean function, and that its call does what that says; printed by cprint.py (this session) over print.py of the kit. Conditions: the hypotheses of each theorem. -/
import Derived.Test.YtlaicnoikeieeaaDoorP0
import Derived.Test.YtlaicnoikeieeaaDoorP9
import Derived.Test.YtlaicnoikeieeaaDoorP12
namespace Go.Proofs.YtlaicnoikeieeaaDoor.P
open Go.RowKit Go.Proofs.YtlaicnoikeieeaaDoorW.PrintWords Go.Proofs.YtlaicnoikeieeaaDoorW.PrintLast Go.Proofs.YtlaicnoikeieeaaDoorW.PrintMore
attribute [local go_sem] max2_int min2_int max_two min_two max_three min_three max_four min_four   -- for this text's walks alone
set_option linter.unusedVariables false
set_option linter.unusedSimpArgs false

/-! ### impl_SubGet: function 19 -/
/-- what the first binding of a variable says; none, if there is none -/
def impl_SubGet.f (l0 : List (S30)) (a1 : Int) : Option (List (S46)) := match Cat.get l0 a1 with
 | none => some []
 | some t => slices_Clone_TrmCell.f t
def varP (v : Int) : Unit → Cat.Bind → Option (Bool × Unit) := fun _ x => some (x.f0 == v, ())
theorem firstS_get (v : Int) : ∀ (l : List Cat.Bind) (i : Nat), ∃ r, firstS (varP v) () l i = some (r, ()) ∧ ((Cat.get l v = none ∧ r = -1) ∨ ∃ j, ∃ h : j < l.length, r = ((i + j : Nat) : Int) ∧ Cat.get l v = some (l[j]).f1)
 | [], i => ⟨-1, rfl, .inl ⟨rfl, rfl⟩⟩
 | x :: l, i => by
  by_cases hx : x.f0 = v
  ·refine ⟨(i : Int), ?_, .inr ⟨0, by simp, by simp, ?_⟩⟩
   ·rw [firstS, varP]; simp [hx]
   ·unfold Cat.get; rw [List.find?_cons]; simp [hx]
  ·obtain ⟨r, h1, h2⟩ := firstS_get v l (i + 1)
   have hb : (x.f0 == v) = false := by simpa using hx
   refine ⟨r, ?_, ?_⟩
   ·rw [firstS, varP]; simp only [Option.bind_some]; rw [if_neg (by rw [hb]; simp)]; exact h1
   ·have e : Cat.get (x :: l) v = Cat.get l v := by unfold Cat.get; rw [List.find?_cons, hb]
    rw [e]
    rcases h2 with h | ⟨j, hj, h3, h4⟩
    ·exact .inl h
    ·exact .inr ⟨j + 1, by simpa using hj, by rw [h3]; congr 1; omega, h4⟩
set_option maxHeartbeats 4000000 in
theorem subget_pred (B : Nat) (v : Int) (x : Cat.Bind) (A : Option Addr) (c : Nat) (W : World) (hc : W.cell? ⟨B, 0, none⟩ = some (.int .i64 v)) (hB : B < W.heap.size) :
  Calls Tryd.prog 54 #[.agg #[.int .i64 x.f0, .slice A x.f1.length c], .pointer (some ⟨B, 0, none⟩)] W fun e w' => e = .returned (.bool (x.f0 == v)) ∧ Below W.heap.size W w' := by
 go_enter Tryd.func54, Tryd.ntmps54
 go_wp2
 go_ret
 exact ⟨rfl, below_alloc (Below.refl _ _) _⟩
set_option maxHeartbeats 8000000 in
set_option maxRecDepth 100000 in
theorem impl_SubGet.calls (A0 : Option Addr) (c0 : Nat) (l0 : List (S30)) (a1 : Int) (r : List (S46)) (w : World) (hr0 : Kd.C k30 w A0 l0.length l0) (hc0 : l0.length ≤ c0) (h : impl_SubGet.f l0 a1 = some r) :
  Calls Tryd.prog 19 #[.slice A0 l0.length c0, .int .i64 a1] w fun e w' => ∃ v0_ : Value, e = .returned (v0_) ∧ Kd.R k46 46 w' w.heap.size (fun _ => True) v0_ r ∧ Below w.heap.size w w' := by
 obtain ⟨ri, hri, hcase⟩ := firstS_get a1 l0 0
 have HR := Aside0.mk hr0
 have HH := Aside0.mk h
 have HF := Aside0.mk hri
 have HJ0 := Aside0.mk (show (w.alloc (.cells #[.int .i64 a1] 3)).cell? ⟨w.heap.size, 0, none⟩ = some (.int .i64 a1) by simp [go_sem])
 have HB0 := Aside0.mk ((Below.refl w.heap.size w).alloc (Nat.le_refl _) (.cells #[.int .i64 a1] 3))
 have HP := Aside0.mk (show PredB 54 #[.pointer (some ⟨w.heap.size, 0, none⟩)] none (varP a1) (fun _ W => W.cell? ⟨w.heap.size, 0, none⟩ = some (.int .i64 a1)) (w.alloc (.cells #[.int .i64 a1] 3)) from by
  intro s s' x b W A c hp hg hJ hl hC
  obtain ⟨rfl, rfl⟩ := Prod.mk.inj (Option.some.inj hp)
  have hlt := World.block_lt_of_cell? W _ hJ
  refine (subget_pred w.heap.size a1 x A c W hJ hlt).mono ?_
  rintro e w' ⟨rfl, hb⟩
  exact ⟨rfl, (hb.cell hlt).trans hJ, grown_below hb none⟩)
 have HIX := Aside0.mk (indexFunc_binds 54 #[.pointer (some ⟨w.heap.size, 0, none⟩)] none (varP a1) _ (enters_ Tryd.func54 (by kernel_rfl) (by kernel_rfl)) A0 c0 l0 _ (fun W hg => Kd.C_below HR.out (HB0.out.trans ((below_grown hg).mono HB0.out.size))) HP.out () () ri HF.out HJ0.out)
 clear hr0 h hri HP HJ0
 rcases hcase with ⟨hn, rfl⟩ | ⟨j, hj, rfl, hs⟩
 ·have HN := Aside0.mk hn
  clear hn
  go_enter Tryd.func19, Tryd.ntmps19
  go_wp2_with (go_at_call 53; (with_reducible refine HIX.out.mono ?_); rintro e w1 ⟨rfl, _, hg1⟩; have HB1 := Aside0.mk (HB0.out.trans ((below_grown hg1).mono HB0.out.size)); clear hg1)
  go_ret
  have h1 := HH.out
  unfold impl_SubGet.f at h1
  rw [HN.out] at h1
  obtain rfl := Option.some.inj h1
  exact ⟨_, rfl, Kd.R_nil _ _ _ _ _, HB1.out⟩
 ·have HN := Aside0.mk hs
  have HCL : Aside0 (slices_Clone_TrmCell.f (l0[j]).f1 = some r) := ⟨by
   have h1 := HH.out
   unfold impl_SubGet.f at h1
   rw [HN.out] at h1
   exact h1⟩
  obtain ⟨ad, A1, c1, e1, hx0, hx1, hl1, hC1⟩ := at_T30 HR.out (j : Int) (by omega) (by omega)
  cases e1
  rw [Int.toNat_natCast] at hx0 hx1
  have ey : rd_T30 l0 (j : Int) = l0[j] := by simp [rd_T30, List.getD, hj]
  rw [ey] at hx0 hx1 hl1 hC1
  have hm : l0.length ≤ 9223372036854775807 := HR.out.2.1
  generalize l0[j] = y at hx0 hx1 hl1 hC1 HCL HN
  have HX1 := Aside0.mk hx1
  have HL1 := Aside0.mk hl1
  have HC1 := Aside0.mk hC1
  have hjz : (j : Int) < (l0.length : Int) := by omega
  have hj0 : ¬ (j : Int) < 0 := by omega
  have had := World.block_lt_of_cell? w _ hx0
  rw [add_block] at had
  rw [Nat.zero_add] at HIX
  clear hs ey hl1 hC1 hx0 hx1 HH
  go_enter Tryd.func19, Tryd.ntmps19
  go_wp2_with (first
   | (go_at_call 53; (with_reducible refine HIX.out.mono ?_); rintro e w1 ⟨rfl, _, hg1⟩; have HB1 := Aside0.mk (HB0.out.trans ((below_grown hg1).mono HB0.out.size)); have hx3 := (HB1.out.cell (World.block_lt_of_cell? w _ HX1.out)).trans HX1.out; clear hg1)
   | (go_at_call 55; (with_reducible refine (slices_Clone_TrmCell.calls A1 c1 y.f1 r _ (Kd.C_below HC1.out HB1.out) HL1.out HCL.out).mono ?_); rintro e w2 ⟨v2, rfl, ho2, hb2⟩; have HO2 := Aside0.mk ho2; have HB2 := Aside0.mk (HB1.out.trans (hb2.mono HB1.out.size)); have hz2 := HB1.out.size; clear ho2 hb2))
  go_ret
  exact ⟨_, rfl, Kd.R_lower HO2.out hz2, HB2.out⟩

/-! ### spec_SubGet: function 21 -/
def spec_SubGet.l0 : Nat → List (S30) → Int → Int → Option ((List (S46)))
 | 0, _, _, _ => none
 | k + 1, x0, x1, x5 => if x5 < (x0.length : Int) then (if 0 ≤ x5 then (if ((rd_T30 x0 x5).f0) = x1 then ((some (([] : List (S46)) : List (S46))).bind fun y434 => (if y434.length + ((rd_T30 x0 x5).f1).length < 4398046511104 then (some (y434 ++ ((rd_T30 x0 x5).f1))) else (none))) else (spec_SubGet.l0 k x0 x1 (wrap64 (x5 + 1)))) else (none)) else (some (([] : List (S46))))
def spec_SubGet.f (k : Nat) (l0 : List (S30)) (a1 : Int) : Option ((List (S46))) := spec_SubGet.l0 k l0 a1 0
set_option maxHeartbeats 8000000 in
set_option maxRecDepth 100000 in
theorem spec_SubGet.calls (k : Nat) (A0 : Option Addr) (c0 : Nat) (l0 : List (S30)) (a1 : Int) (r : List (S46)) (w : World) (hr0 : Kd.C k30 w A0 l0.length l0) (hc0 : l0.length ≤ c0) (h : spec_SubGet.f k l0 a1 = some r) :
  Calls Tryd.prog 21 #[.slice A0 l0.length c0, .int .i64 a1] w fun e w' => ∃ v0_ : Value, e = .returned (v0_) ∧ Kd.R k46 46 w' w.heap.size (fun _ => True) v0_ r ∧ Below w.heap.size w w' := by
 have HR0 := Aside0.mk hr0
 have HC0 := Aside0.mk hc0
 clear hr0 hc0
 have HB := Aside0.mk (Below.refl w.heap.size w)
 have H : (spec_SubGet.l0 k l0 a1 0) = some r := h
 clear h
 have H' := Aside0.mk H
 clear H
 go_enter Tryd.func21, Tryd.ntmps21
 go_wp2
 go_loopg [5] k (fun kq v5 w' => ∃ (x5_1 : Int), v5 = .int .i64 x5_1 ∧ Aside0 (spec_SubGet.l0 kq l0 a1 x5_1 = some r) ∧ Aside0 (kq ≤ k) ∧ Aside0 (Below w.heap.size w w'))
 case atStart => exact ⟨(0), (by first | rfl | (simp; done) | (simp [*]; done)), H', ⟨Nat.le_refl _⟩, ⟨by repeat (first | (with_reducible first | exact HB.out | apply below_alloc | apply pw_below_drewN | apply below_drew1) | exact HB.out)⟩⟩
 case round =>
  clear H'
  try clear c2
  try clear p2
  obtain ⟨x5_1, rfl, HA, HK1, HB⟩ := hrel
  cases gk with
  | zero => exact absurd HA.out (by simp [spec_SubGet.l0])
  | succ k1 =>
   have H := HA.out
   clear HA
   simp only [spec_SubGet.l0] at H
   by_cases c3 : x5_1 < (l0.length : Int)
   ·rw [if_pos c3] at H
    have c3b0 : decide (x5_1 < (l0.length : Int)) = true := decide_eq_true c3
    clear c3
    by_cases c4 : 0 ≤ x5_1
    ·rw [if_pos c4] at H
     have c4b0 : decide (0 ≤ x5_1) = true := decide_eq_true c4
     clear c4
     by_cases c5 : ((rd_T30 l0 x5_1).f0) = a1
     ·rw [if_pos c5] at H
      have c5b0 : (((rd_T30 l0 x5_1).f0) == a1) = true := beq_iff_eq.mpr c5
      have c5b1 : (((rd_T30 l0 x5_1).f0) != a1) = false := bne_eq_false_iff_eq.mpr c5
      clear c5
      obtain ⟨y434, hy434⟩ : ∃ y_ : List (S46), y_ = (([] : List (S46))) := ⟨_, rfl⟩
      replace H : (if y434.length + ((rd_T30 l0 x5_1).f1).length < 4398046511104 then (some (y434 ++ ((rd_T30 l0 x5_1).f1))) else (none)) = some r := by first | (rw [hy434]; with_reducible exact H) | (have H2_ := (Option.bind_some _ _).symm.trans H; rw [hy434]; with_reducible exact H2_) | (have H2_ := (Option.bind_some _ _).symm.trans H; with_reducible exact H2_) | with_reducible exact H | (rw [hy434]; exact H) | exact H
      have Ny434 := Aside0.mk hy434
      clear hy434
      by_cases c6 : y434.length + ((rd_T30 l0 x5_1).f1).length < 4398046511104
      ·rw [if_pos c6] at H
       have LMc6 := Aside0.mk c6
       clear c6
       obtain ⟨y438, hy438⟩ : ∃ y_ : List (S46), y_ = (y434 ++ ((rd_T30 l0 x5_1).f1)) := ⟨_, rfl⟩
       replace H : (some y438) = some r := by first | (rw [hy438]; with_reducible exact H) | (have H2_ := (Option.bind_some _ _).symm.trans H; rw [hy438]; with_reducible exact H2_) | (have H2_ := (Option.bind_some _ _).symm.trans H; with_reducible exact H2_) | with_reducible exact H | (rw [hy438]; exact H) | exact H
       have Ny438 := Aside0.mk hy438
       clear hy438
       obtain rfl := Option.some.inj H
       have p433 : 0 ≤ (x5_1 : Int) := of_decide_eq_true (by first | (with_reducible assumption) | assumption)
       have q433 : x5_1 < (l0.length : Int) := of_decide_eq_true (by first | (with_reducible assumption) | assumption)
       obtain ⟨ad433, A433_1, c433_1, e433, hx433_0, hx433_1, hl433_1, hi433_1⟩ := at_T30 HR0.out x5_1 p433 q433
       cases e433
       replace hx433_0 := (HB.out.cell (World.block_lt_of_cell? w _ hx433_0)).trans hx433_0
       replace hx433_1 := (HB.out.cell (World.block_lt_of_cell? w _ hx433_1)).trans hx433_1
       have HR433_1 := Aside0.mk hi433_1
       have HC433_1 := Aside0.mk hl433_1
       clear hi433_1 hl433_1
       replace p433 := eq_true p433
       replace q433 := eq_true q433
       go_wp2_with (first | ((with_reducible refine gate_dst (N := 19) rfl ?_); refine Kd.R_lit k46 _ 46 ?hg (N := 19) ?hd (xs := ([] : List (S46))) (inner := []) (ok := fun _ => True) (okp := fun _ => True) ?hr ?hp (fun _ hk => hk) trivial (Below.refl _ _) (Nat.le_refl _) (by simp) ?_; (case hd => rfl); (case hg => rfl); (case hr => first | (go_simp; done) | (go_simp; rfl)); (case hp => exact (Reps.none _ _)); intro v435 w7 ho8 hb hg_ hnew_; clear hg_ hnew_; (first | rw [← Ny434.out] at ho8 | (simp only [Int.reduceToNat] at ho8; rw [← Ny434.out] at ho8)); have n0_ := Aside0.mk (Kd.R_lower ho8 (below_size (by repeat first | exact HB.out | apply below_alloc | apply pw_below_drewN | apply below_drew1))); have n1_ := Aside0.mk (below_step (by repeat first | exact HB.out | apply below_alloc | apply pw_below_drewN | apply below_drew1) hb); clear HB; have HO436 := n0_; have HB := n1_; clear n0_ n1_; clear hb ho8; have p437 : 0 ≤ (x5_1 : Int) := of_decide_eq_true (by first | (with_reducible assumption) | assumption); have q437 : x5_1 < (l0.length : Int) := of_decide_eq_true (by first | (with_reducible assumption) | assumption); obtain ⟨ad437, A437_1, c437_1, e437, hx437_0, hx437_1, hl437_1, hi437_1⟩ := at_T30 HR0.out x5_1 p437 q437; obtain rfl : ad433 = ad437 := (by injection e437); replace hx437_0 := (HB.out.cell (World.block_lt_of_cell? w _ hx437_0)).trans hx437_0; replace hx437_1 := (HB.out.cell (World.block_lt_of_cell? w _ hx437_1)).trans hx437_1; have HR437_1 := Aside0.mk hi437_1; have HC437_1 := Aside0.mk hl437_1; clear hi437_1 hl437_1; replace p437 := eq_true p437; replace q437 := eq_true q437) | ((with_reducible refine gate_builtin (b := .append) (xs := #[.tmp 19, .tmp 24]) rfl ?_); at_builtin; refine Kd.R_append_rows k46 (w0 := w) w.heap.size rfl (.tmp 19) (.tmp 24) 26 46 (.agg #[(.int .i64 0), (.int .i64 0), (.string ⟨#[]⟩)]) 32 rfl Tryd.underlying26 info46 rfl (by decide) (by omega) v435 y434 ((rd_T30 l0 x5_1).f1) _ _ _ (fun _ => True) (fun _ => False) rfl rfl ?aO ?aR (fun _ _ h => h) (fun _ h => h.elim) ?aF ?aB ?aS ?aL ?_; (case aR => repeat (first | exact (Kd.C_below HR437_1.out HB.out) | (with_reducible refine Kd.C_alloc ?_ _) | (with_reducible refine Kd.C_drewN ?_ _) | (with_reducible refine Kd.C_drew ?_))); (case aB => exact (by repeat first | exact HB.out | apply below_alloc | apply pw_below_drewN | apply below_drew1)); (case aF => exact (fun _ _ => trivial)); (case aO => exact (by (with_reducible repeat (first | apply Kd.R_alloc | apply Kd.R_drewN | apply Kd.R_drew)); exact HO436.out)); (case aS => exact (below_size (by repeat first | exact HB.out | apply below_alloc | apply pw_below_drewN | apply below_drew1))); (case aL => have := LMc6.out; omega); intro v439 w9 ho hb hg hat; rw [← Ny438.out] at ho; have n0_ := Aside0.mk (hb); have n1_ := Aside0.mk (ho); clear HB; clear HO436; have HB := n0_; have HO440 := n1_; clear n0_ n1_; clear ho hb hg hat))
       go_ret
       exact ⟨_, by first | rfl | (simp [errW_none, errW_some] <;> rfl) | (simp [*, errW_none, errW_some] <;> rfl), by (with_reducible repeat (first | apply Kd.R_alloc | apply Kd.R_drewN | apply Kd.R_drew)); exact HO440.out, by repeat (first | (with_reducible first | exact HB.out | apply below_alloc | apply pw_below_drewN | apply below_drew1) | exact HB.out)⟩
      ·rw [if_neg c6] at H
       exact absurd H (by simp)
     ·rw [if_neg c5] at H
      have c5b0 : (((rd_T30 l0 x5_1).f0) == a1) = false := beq_eq_false_iff_ne.mpr c5
      have c5b1 : (((rd_T30 l0 x5_1).f0) != a1) = true := bne_iff_ne.mpr c5
      have H' := Aside0.mk H
      clear H
      have p433 : 0 ≤ (x5_1 : Int) := of_decide_eq_true (by first | (with_reducible assumption) | assumption)
      have q433 : x5_1 < (l0.length : Int) := of_decide_eq_true (by first | (with_reducible assumption) | assumption)
      obtain ⟨ad433, A433_1, c433_1, e433, hx433_0, hx433_1, hl433_1, hi433_1⟩ := at_T30 HR0.out x5_1 p433 q433
      cases e433
      replace hx433_0 := (HB.out.cell (World.block_lt_of_cell? w _ hx433_0)).trans hx433_0
      replace hx433_1 := (HB.out.cell (World.block_lt_of_cell? w _ hx433_1)).trans hx433_1
      have HR433_1 := Aside0.mk hi433_1
      have HC433_1 := Aside0.mk hl433_1
      clear hi433_1 hl433_1
      replace p433 := eq_true p433
      replace q433 := eq_true q433
      go_wp2
      go_roundg k1
      case measure => have := HK1.out; omega
      case rel => exact ⟨(wrap64 (x5_1 + 1)), (by first | rfl | (simp; done) | (simp [*]; done)), H', ⟨by have := HK1.out; omega⟩, ⟨by repeat (first | (with_reducible first | exact HB.out | apply below_alloc | apply pw_below_drewN | apply below_drew1) | exact HB.out)⟩⟩
    ·rw [if_neg c4] at H
     exact absurd H (by simp)
   ·rw [if_neg c3] at H
    have c3b0 : decide (x5_1 < (l0.length : Int)) = false := decide_eq_false c3
    clear c3
    obtain ⟨y430, hy430⟩ : ∃ y_ : List (S46), y_ = (([] : List (S46))) := ⟨_, rfl⟩
    replace H : (some y430) = some r := by first | (rw [hy430]; with_reducible exact H) | (have H2_ := (Option.bind_some _ _).symm.trans H; rw [hy430]; with_reducible exact H2_) | (have H2_ := (Option.bind_some _ _).symm.trans H; with_reducible exact H2_) | with_reducible exact H | (rw [hy430]; exact H) | exact H
    have Ny430 := Aside0.mk hy430
    clear hy430
    obtain rfl := Option.some.inj H
    go_wp2_with (first | ((with_reducible refine gate_dst (N := 26) rfl ?_); refine Kd.R_lit k46 _ 46 ?hg (N := 26) ?hd (xs := ([] : List (S46))) (inner := []) (ok := fun _ => True) (okp := fun _ => True) ?hr ?hp (fun _ hk => hk) trivial (Below.refl _ _) (Nat.le_refl _) (by simp) ?_; (case hd => rfl); (case hg => rfl); (case hr => first | (go_simp; done) | (go_simp; rfl)); (case hp => exact (Reps.none _ _)); intro v431 w10 ho11 hb hg_ hnew_; clear hg_ hnew_; (first | rw [← Ny430.out] at ho11 | (simp only [Int.reduceToNat] at ho11; rw [← Ny430.out] at ho11)); have n0_ := Aside0.mk (Kd.R_lower ho11 (below_size (by repeat first | exact HB.out | apply below_alloc | apply pw_below_drewN | apply below_drew1))); have n1_ := Aside0.mk (below_step (by repeat first | exact HB.out | apply below_alloc | apply pw_below_drewN | apply below_drew1) hb); clear HB; have HO432 := n0_; have HB := n1_; clear n0_ n1_; clear hb ho11))
    go_ret
    exact ⟨_, by first | rfl | (simp [errW_none, errW_some] <;> rfl) | (simp [*, errW_none, errW_some] <;> rfl), by (with_reducible repeat (first | apply Kd.R_alloc | apply Kd.R_drewN | apply Kd.R_drew)); exact HO432.out, by repeat (first | (with_reducible first | exact HB.out | apply below_alloc | apply pw_below_drewN | apply below_drew1) | exact HB.out)⟩

end Go.Proofs.YtlaicnoikeieeaaDoor.P
