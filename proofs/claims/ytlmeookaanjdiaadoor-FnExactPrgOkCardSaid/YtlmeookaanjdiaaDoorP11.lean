/- Contracts of functions of the program: each as a Lean function, and that its call does what that says; printed by cprint.py (this session) over print.py of the kit. Conditions: the hypotheses of each theorem. -/
import Derived.Test.YtlmeookaanjdiaaDoorP0
import Derived.Test.YtlmeookaanjdiaaDoorP7
import Derived.Test.YtlmeookaanjdiaaDoorP10
namespace Go.Proofs.YtlmeookaanjdiaaDoor.P
open Go.RowKit Go.Proofs.YtlmeookaanjdiaaDoorW.PrintWords Go.Proofs.YtlmeookaanjdiaaDoorW.PrintLast Go.Proofs.YtlmeookaanjdiaaDoorW.PrintMore
attribute [local go_sem] max2_int min2_int max_two min_two max_three min_three max_four min_four   -- for this text's walks alone
set_option linter.unusedVariables false
set_option linter.unusedSimpArgs false

/-! ### impl_PrgOk: function 58 -/
mutual
def impl_PrgOk.l0 : Nat → List (S108) → Int → Int → List (S105) → List (S108) → Option (Bool)
 | 0, _, _, _, _, _ => none
 | k + 1, x9, x10, x11, x269000, x269001 => if x11 < x10 then (if 0 ≤ x11 then (if x11 < (x9.length : Int) then ((impl_nameOk.f ((rd_T108 x9 x11).f0)).bind fun t272 => (if t272 = true then ((impl_in.f ((rd_T108 x9 x11).f1) 0 3).bind fun t273 => (if t273 = true then ((impl_in.f ((rd_T108 x9 x11).f2) 1 2).bind fun t274 => (impl_PrgOk.j1 k x11 x9 x10 x11 (!t274) x269000 x269001 ((rd_T108 x9 x11).f0) ((rd_T108 x9 x11).f1) ((rd_T108 x9 x11).f2))) else (impl_PrgOk.j1 k x11 x9 x10 x11 true x269000 x269001 ((rd_T108 x9 x11).f0) ((rd_T108 x9 x11).f1) ((rd_T108 x9 x11).f2)))) else (impl_PrgOk.j1 k x11 x9 x10 x11 true x269000 x269001 ((rd_T108 x9 x11).f0) ((rd_T108 x9 x11).f1) ((rd_T108 x9 x11).f2)))) else (none)) else (none)) else (if (x269000.length : Int) ≤ 12 then (if (x269001.length : Int) ≤ 6 then ((slices_ContainsFunc_PrgClause.f k x269000).bind fun t269 => (some (!t269))) else (some false)) else (some false))
def impl_PrgOk.j1 : Nat → Int → List (S108) → Int → Int → Bool → List (S105) → List (S108) → ByteArray → Int → Int → Option (Bool)
 | 0, _, _, _, _, _, _, _, _, _, _ => none
 | k + 1, x3, x9, x10, x11, x31, x269000, x269001, x272000, x272001, x272002 => if x31 = true then (some false) else (if 0 ≤ x3 then (if x3 ≤ (x269001.length : Int) then ((some (x269001.take (x3 : Int).toNat : List (S108))).bind fun y275 => (impl_PrgOk.l1 k x9 x10 x11 y275 (y275.length : Int) 0 x269000 x269001 x272000 x272001 x272002)) else (none)) else (none))
def impl_PrgOk.l1 : Nat → List (S108) → Int → Int → List (S108) → Int → Int → List (S105) → List (S108) → ByteArray → Int → Int → Option (Bool)
 | 0, _, _, _, _, _, _, _, _, _, _, _ => none
 | k + 1, x9, x10, x11, x35, x36, x37, x269000, x269001, x272000, x272001, x272002 => if x37 < x36 then (if 0 ≤ x37 then (if x37 < (x35.length : Int) then (if x272000.toList = ((rd_T108 x35 x37).f0).toList then (if x272001 = ((rd_T108 x35 x37).f1) then (some false) else (impl_PrgOk.l1 k x9 x10 x11 x35 x36 (wrap64 (x37 + 1)) x269000 x269001 x272000 x272001 x272002)) else (impl_PrgOk.l1 k x9 x10 x11 x35 x36 (wrap64 (x37 + 1)) x269000 x269001 x272000 x272001 x272002)) else (none)) else (none)) else (impl_PrgOk.l0 k x9 x10 (wrap64 (x11 + 1)) x269000 x269001)
end
def impl_PrgOk.f (k : Nat) (l0_0 : List (S105)) (l0_1 : List (S108)) : Option (Bool) := impl_PrgOk.l0 k l0_1 (l0_1.length : Int) 0 l0_0 l0_1
set_option maxHeartbeats 8000000 in
set_option maxRecDepth 100000 in
theorem impl_PrgOk.calls (k : Nat) (A0_0 : Option Addr) (c0_0 : Nat) (l0_0 : List (S105)) (A0_1 : Option Addr) (c0_1 : Nat) (l0_1 : List (S108)) (r : Bool) (w : World) (hr0_0 : Kd.C k105 w A0_0 l0_0.length l0_0) (hc0_0 : l0_0.length ≤ c0_0) (hr0_1 : Kd.C k108 w A0_1 l0_1.length l0_1) (hc0_1 : l0_1.length ≤ c0_1) (h : impl_PrgOk.f k l0_0 l0_1 = some r) :
  Calls Tryd.prog 58 #[.agg #[.slice A0_0 l0_0.length c0_0, .slice A0_1 l0_1.length c0_1]] w fun e w' => e = .returned (.bool r) ∧ Below w.heap.size w w' := by
 have hu74 := Tryd.underlying74
 have hu108 := Tryd.underlying108
 have HR0_0 := Aside0.mk hr0_0
 have HC0_0 := Aside0.mk hc0_0
 clear hr0_0 hc0_0
 have HR0_1 := Aside0.mk hr0_1
 have HC0_1 := Aside0.mk hc0_1
 clear hr0_1 hc0_1
 have HB := Aside0.mk (Below.refl w.heap.size w)
 have H : (impl_PrgOk.l0 k l0_1 (l0_1.length : Int) 0 l0_0 l0_1) = some r := h
 clear h
 have H' := Aside0.mk H
 clear H
 go_enter Tryd.func58, Tryd.ntmps58
 go_wp2_with (first | ((with_reducible refine gate_dst (N := 1) rfl ?_); (try (refine gate_guard (by rfl) ?_; dsimp only)); refine box_event ?hg (N := 1) ?hd (cs := #[.slice A0_0 l0_0.length c0_0, .slice A0_1 l0_1.length c0_1]) (t := 74) ?hr ?_; (case hd => rfl); (case hg => rfl); (case hr => first | (go_simp; done) | (go_simp; rfl)); intro gb268 hg w2 hbox hb; have n0_ := Aside0.mk (below_step (by repeat first | exact HB.out | apply below_alloc | apply pw_below_drewN | apply below_drew1) hb); have n1_ := Aside0.mk (hbox); have n2_ := Aside0.mk ((by rw [hg]; exact (below_size (by repeat first | exact HB.out | apply below_alloc | apply pw_below_drewN | apply below_drew1)) : w.heap.size ≤ gb268)); have n3_ := Aside0.mk ((by rw [hg]; exact (below_size (by repeat first | exact HB.out | apply below_alloc | apply pw_below_drewN | apply below_drew1)) : w.heap.size ≤ gb268)); clear HB; have HB := n0_; have BK268 := n1_; have GW268 := n2_; have GE268 := n3_; clear n0_ n1_ n2_ n3_; clear hb hbox hg; have hcz3_0 : w2.cell? ⟨gb268, 0, none⟩ = some (.slice A0_0 l0_0.length c0_0) := (blk_cell BK268.out 0).trans rfl; have hcz3_1 : w2.cell? ⟨gb268, 1, none⟩ = some (.slice A0_1 l0_1.length c0_1) := (blk_cell BK268.out 1).trans rfl; have hfz3_0 := blk_frozen BK268.out 0; have hfz3_1 := blk_frozen BK268.out 1))
 go_loopg [11] k (fun kq v11 w' => ∃ (x11_1 : Int), v11 = .int .i64 x11_1 ∧ Aside0 (impl_PrgOk.l0 kq l0_1 (l0_1.length : Int) x11_1 l0_0 l0_1 = some r) ∧ Aside0 (kq ≤ k) ∧ Aside0 (w'.heap[gb268]? = some (.cells #[(.slice A0_0 l0_0.length c0_0), (.slice A0_1 l0_1.length c0_1)] 74 (0, 0))) ∧ Aside0 (Below w.heap.size w w'))
 case atStart => exact ⟨(0), (by first | rfl | (simp; done) | (simp [*]; done)), H', ⟨Nat.le_refl _⟩, ⟨by (with_reducible repeat (first | refine blk_drewN ?_ _ | refine blk_drew ?_ | refine blk_alloc ?_ _)); exact BK268.out⟩, ⟨by repeat (first | (with_reducible first | exact HB.out | apply below_alloc | apply pw_below_drewN | apply below_drew1 | refine below_set ?_ GE268.out) | exact HB.out)⟩⟩
 case round =>
  clear H'
  try clear p2
  try clear hcz3_0
  try clear hcz3_1
  try clear hfz3_0
  try clear hfz3_1
  obtain ⟨x11_1, rfl, HA, HK1, BK268, HB⟩ := hrel
  cases gk with
  | zero => exact absurd HA.out (by simp [impl_PrgOk.l0])
  | succ k1 =>
   have H := HA.out
   clear HA
   simp only [impl_PrgOk.l0] at H
   by_cases c4 : x11_1 < (l0_1.length : Int)
   ·rw [if_pos c4] at H
    have c4b0 : decide (x11_1 < (l0_1.length : Int)) = true := decide_eq_true c4
    clear c4
    by_cases c5 : 0 ≤ x11_1
    ·rw [if_pos c5] at H
     have c5b0 : decide (0 ≤ x11_1) = true := decide_eq_true c5
     clear c5
     by_cases c6 : x11_1 < (l0_1.length : Int)
     ·rw [if_pos c6] at H
      have c6b0 : decide (x11_1 < (l0_1.length : Int)) = true := decide_eq_true c6
      clear c6
      have HC7 := Aside0.mk H
      clear H
      have p270 : 0 ≤ (x11_1 : Int) := of_decide_eq_true (by first | (with_reducible assumption) | assumption)
      have q270 : x11_1 < (l0_1.length : Int) := of_decide_eq_true (by first | (with_reducible assumption) | assumption)
      obtain ⟨ad270, e270, hx270_0, hx270_1, hx270_2⟩ := at_T108 HR0_1.out x11_1 p270 q270
      cases e270
      replace hx270_0 := (HB.out.cell (World.block_lt_of_cell? w _ hx270_0)).trans hx270_0
      replace hx270_1 := (HB.out.cell (World.block_lt_of_cell? w _ hx270_1)).trans hx270_1
      replace hx270_2 := (HB.out.cell (World.block_lt_of_cell? w _ hx270_2)).trans hx270_2
      replace p270 := eq_true p270
      replace q270 := eq_true q270
      go_upto_region 4 with (first | ((with_reducible refine gate_dst (N := 4) rfl ?_); (try (refine gate_guard (by rfl) ?_; dsimp only)); refine box_event ?hg (N := 4) ?hd (cs := #[.string (⟨#[]⟩ : ByteArray), .int .i64 0, .int .i64 0]) (t := 108) ?hr ?_; (case hd => rfl); (case hg => rfl); (case hr => first | (go_simp; done) | (go_simp; rfl)); intro gb271 hg w8 hbox hb; have n0_ := Aside0.mk (blk_below (g := gb268) (o := .cells #[.slice A0_0 l0_0.length c0_0, .slice (some ad270) l0_1.length c0_1] 74 (0, 0)) (by (with_reducible repeat (first | refine blk_drewN ?_ _ | refine blk_drew ?_ | refine blk_alloc ?_ _)); exact BK268.out) hb); have n1_ := Aside0.mk (below_step (by repeat (first | (with_reducible first | exact HB.out | apply below_alloc | apply pw_below_drewN | apply below_drew1 | refine below_set ?_ GE268.out) | exact HB.out)) hb); have n2_ := Aside0.mk (hbox); have n3_ := Aside0.mk ((by rw [hg]; exact (below_size (by repeat (first | (with_reducible first | exact HB.out | apply below_alloc | apply pw_below_drewN | apply below_drew1 | refine below_set ?_ GE268.out) | exact HB.out))) : w.heap.size ≤ gb271)); have n4_ := Aside0.mk ((by rw [hg]; exact (below_size (by repeat (first | (with_reducible first | exact HB.out | apply below_alloc | apply pw_below_drewN | apply below_drew1 | refine below_set ?_ GE268.out) | exact HB.out))) : w.heap.size ≤ gb271)); have n5_ := Aside0.mk ((by rw [hg]; exact Nat.ne_of_lt (blk_lt (g := gb268) (o := .cells #[.slice A0_0 l0_0.length c0_0, .slice (some ad270) l0_1.length c0_1] 74 (0, 0)) (by (with_reducible repeat (first | refine blk_drewN ?_ _ | refine blk_drew ?_ | refine blk_alloc ?_ _)); exact BK268.out)) : gb268 ≠ gb271)); have n6_ := Aside0.mk ((by rw [hg]; exact Nat.ne_of_gt (blk_lt (g := gb268) (o := .cells #[.slice A0_0 l0_0.length c0_0, .slice (some ad270) l0_1.length c0_1] 74 (0, 0)) (by (with_reducible repeat (first | refine blk_drewN ?_ _ | refine blk_drew ?_ | refine blk_alloc ?_ _)); exact BK268.out)) : gb271 ≠ gb268)); clear BK268; clear HB; have BK268 := n0_; have HB := n1_; have BK271 := n2_; have GW271 := n3_; have GE271 := n4_; have NB268_271 := n5_; have NB271_268 := n6_; clear n0_ n1_ n2_ n3_ n4_ n5_ n6_; clear hb hbox hg; have hnb9 := NB271_268.out; have hnc9 := NB268_271.out; have hcz10_0 : w8.cell? ⟨gb271, 0, none⟩ = some (.string (⟨#[]⟩ : ByteArray)) := (blk_cell BK271.out 0).trans rfl; have hcz10_1 : w8.cell? ⟨gb271, 1, none⟩ = some (.int .i64 0) := (blk_cell BK271.out 1).trans rfl; have hcz10_2 : w8.cell? ⟨gb271, 2, none⟩ = some (.int .i64 0) := (blk_cell BK271.out 2).trans rfl; have hfz10_0 := blk_frozen BK271.out 0; have hfz10_1 := blk_frozen BK271.out 1; have hfz10_2 := blk_frozen BK271.out 2))
      (try simp only [Act.put, List.setIfInBounds_toArray, List.set_cons_zero, List.set_cons_succ])
      go_cut [31] (fun v31 wc => ∃ (kq : Nat) (x31_6 : Bool), v31 = .bool x31_6 ∧ Aside0 (impl_PrgOk.j1 kq x11_1 l0_1 (l0_1.length : Int) x11_1 x31_6 l0_0 l0_1 ((rd_T108 l0_1 x11_1).f0) ((rd_T108 l0_1 x11_1).f1) ((rd_T108 l0_1 x11_1).f2) = some r) ∧ Aside0 (kq ≤ k1) ∧ Aside0 (wc.heap[gb268]? = some (.cells #[(.slice A0_0 l0_0.length c0_0), (.slice (some ad270) l0_1.length c0_1)] 74 (0, 0))) ∧ Aside0 (wc.heap[gb271]? = some (.cells #[.string ((rd_T108 l0_1 x11_1).f0), .int .i64 ((rd_T108 l0_1 x11_1).f1), .int .i64 ((rd_T108 l0_1 x11_1).f2)] 108 (0, 0))) ∧ Aside0 (Below w.heap.size w wc))
      case first =>
       have H := HC7.out
       clear HC7
       replace H := Option.bind_eq_some_iff.mp H
       obtain ⟨t272, A110, H⟩ := H
       replace H : (if t272 = true then ((impl_in.f ((rd_T108 l0_1 x11_1).f1) 0 3).bind fun t273 => (if t273 = true then ((impl_in.f ((rd_T108 l0_1 x11_1).f2) 1 2).bind fun t274 => (impl_PrgOk.j1 k1 x11_1 l0_1 (l0_1.length : Int) x11_1 (!t274) l0_0 l0_1 ((rd_T108 l0_1 x11_1).f0) ((rd_T108 l0_1 x11_1).f1) ((rd_T108 l0_1 x11_1).f2))) else (impl_PrgOk.j1 k1 x11_1 l0_1 (l0_1.length : Int) x11_1 true l0_0 l0_1 ((rd_T108 l0_1 x11_1).f0) ((rd_T108 l0_1 x11_1).f1) ((rd_T108 l0_1 x11_1).f2)))) else (impl_PrgOk.j1 k1 x11_1 l0_1 (l0_1.length : Int) x11_1 true l0_0 l0_1 ((rd_T108 l0_1 x11_1).f0) ((rd_T108 l0_1 x11_1).f1) ((rd_T108 l0_1 x11_1).f2))) = some r := H
       have A11 := Aside0.mk A110
       clear A110
       by_cases c12 : t272 = true
       ·subst c12
        have H1 : ((impl_in.f ((rd_T108 l0_1 x11_1).f1) 0 3).bind fun t273 => (if t273 = true then ((impl_in.f ((rd_T108 l0_1 x11_1).f2) 1 2).bind fun t274 => (impl_PrgOk.j1 k1 x11_1 l0_1 (l0_1.length : Int) x11_1 (!t274) l0_0 l0_1 ((rd_T108 l0_1 x11_1).f0) ((rd_T108 l0_1 x11_1).f1) ((rd_T108 l0_1 x11_1).f2))) else (impl_PrgOk.j1 k1 x11_1 l0_1 (l0_1.length : Int) x11_1 true l0_0 l0_1 ((rd_T108 l0_1 x11_1).f0) ((rd_T108 l0_1 x11_1).f1) ((rd_T108 l0_1 x11_1).f2)))) = some r := by rw [if_pos rfl] at H; exact H
        clear H
        have H := H1
        clear H1
        replace H := Option.bind_eq_some_iff.mp H
        obtain ⟨t273, A130, H⟩ := H
        replace H : (if t273 = true then ((impl_in.f ((rd_T108 l0_1 x11_1).f2) 1 2).bind fun t274 => (impl_PrgOk.j1 k1 x11_1 l0_1 (l0_1.length : Int) x11_1 (!t274) l0_0 l0_1 ((rd_T108 l0_1 x11_1).f0) ((rd_T108 l0_1 x11_1).f1) ((rd_T108 l0_1 x11_1).f2))) else (impl_PrgOk.j1 k1 x11_1 l0_1 (l0_1.length : Int) x11_1 true l0_0 l0_1 ((rd_T108 l0_1 x11_1).f0) ((rd_T108 l0_1 x11_1).f1) ((rd_T108 l0_1 x11_1).f2))) = some r := H
        have A13 := Aside0.mk A130
        clear A130
        by_cases c14 : t273 = true
        ·subst c14
         have H1 : ((impl_in.f ((rd_T108 l0_1 x11_1).f2) 1 2).bind fun t274 => (impl_PrgOk.j1 k1 x11_1 l0_1 (l0_1.length : Int) x11_1 (!t274) l0_0 l0_1 ((rd_T108 l0_1 x11_1).f0) ((rd_T108 l0_1 x11_1).f1) ((rd_T108 l0_1 x11_1).f2))) = some r := by rw [if_pos rfl] at H; exact H
         clear H
         have H := H1
         clear H1
         replace H := Option.bind_eq_some_iff.mp H
         obtain ⟨t274, A150, H⟩ := H
         replace H : (impl_PrgOk.j1 k1 x11_1 l0_1 (l0_1.length : Int) x11_1 (!t274) l0_0 l0_1 ((rd_T108 l0_1 x11_1).f0) ((rd_T108 l0_1 x11_1).f1) ((rd_T108 l0_1 x11_1).f2)) = some r := H
         have A15 := Aside0.mk A150
         clear A150
         have H' := Aside0.mk H
         clear H
         have hnb16 := NB271_268.out
         have hnc16 := NB268_271.out
         have hcz17_0 : w8.cell? ⟨gb271, 0, none⟩ = some (.string (⟨#[]⟩ : ByteArray)) := (blk_cell BK271.out 0).trans rfl
         have hcz17_1 : w8.cell? ⟨gb271, 1, none⟩ = some (.int .i64 0) := (blk_cell BK271.out 1).trans rfl
         have hcz17_2 : w8.cell? ⟨gb271, 2, none⟩ = some (.int .i64 0) := (blk_cell BK271.out 2).trans rfl
         have hfz17_0 := blk_frozen BK271.out 0
         have hfz17_1 := blk_frozen BK271.out 1
         have hfz17_2 := blk_frozen BK271.out 2
         go_wp2_with (first | ((with_reducible refine gate_callee (f := 98) rfl ?_); refine goesL_ (some 18) rfl rfl Tryd.func98 (by kernel_rfl) rfl #[.string ((rd_T108 l0_1 x11_1).f0)] rfl (by (try simp only [List.map_toArray, List.map_cons, List.map_nil]); first | done | rfl | (simp only [List.length_drop, List.length_take]; rfl)) ?_; (with_reducible refine (impl_nameOk.calls ((rd_T108 l0_1 x11_1).f0) true _ A11.out).mono ?_); rintro e w18 ⟨rfl, hb⟩; refine ⟨_, rfl, ?_⟩; have n0_ := Aside0.mk (blk_below (g := gb268) (o := .cells #[.slice A0_0 l0_0.length c0_0, .slice (some ad270) l0_1.length c0_1] 74 (0, 0)) (by (with_reducible repeat (first | refine blk_drewN ?_ _ | refine blk_drew ?_ | refine blk_alloc ?_ _)); refine blk_far ?_ NB268_271.out _; (with_reducible repeat (first | refine blk_drewN ?_ _ | refine blk_drew ?_ | refine blk_alloc ?_ _)); refine blk_far ?_ NB268_271.out _; (with_reducible repeat (first | refine blk_drewN ?_ _ | refine blk_drew ?_ | refine blk_alloc ?_ _)); refine blk_far ?_ NB268_271.out _; (with_reducible repeat (first | refine blk_drewN ?_ _ | refine blk_drew ?_ | refine blk_alloc ?_ _)); exact BK268.out) hb); have n1_ := Aside0.mk (blk_below (g := gb271) (o := .cells #[.string ((rd_T108 l0_1 x11_1).f0), .int .i64 ((rd_T108 l0_1 x11_1).f1), .int .i64 ((rd_T108 l0_1 x11_1).f2)] 108 (0, 0)) (by (with_reducible repeat (first | refine blk_drewN ?_ _ | refine blk_drew ?_ | refine blk_alloc ?_ _)); refine blk_put (cs := #[.string ((rd_T108 l0_1 x11_1).f0), .int .i64 ((rd_T108 l0_1 x11_1).f1), .int .i64 0]) ?_ 2 _ rfl; (with_reducible repeat (first | refine blk_drewN ?_ _ | refine blk_drew ?_ | refine blk_alloc ?_ _)); refine blk_put (cs := #[.string ((rd_T108 l0_1 x11_1).f0), .int .i64 0, .int .i64 0]) ?_ 1 _ rfl; (with_reducible repeat (first | refine blk_drewN ?_ _ | refine blk_drew ?_ | refine blk_alloc ?_ _)); refine blk_put (cs := #[.string (⟨#[]⟩ : ByteArray), .int .i64 0, .int .i64 0]) ?_ 0 _ rfl; (with_reducible repeat (first | refine blk_drewN ?_ _ | refine blk_drew ?_ | refine blk_alloc ?_ _)); exact BK271.out) hb); have n2_ := Aside0.mk (below_step (by repeat (first | (with_reducible first | exact HB.out | apply below_alloc | apply pw_below_drewN | apply below_drew1 | refine below_set ?_ GE268.out | refine below_set ?_ GE271.out) | exact HB.out)) hb); clear BK268; clear BK271; clear HB; have BK268 := n0_; have BK271 := n1_; have HB := n2_; clear n0_ n1_ n2_; (try clear hb); (try clear hb2); (try clear hk); (try clear hi); have hcz19_0 : w18.cell? ⟨gb271, 0, none⟩ = some (.string ((rd_T108 l0_1 x11_1).f0)) := (blk_cell BK271.out 0).trans rfl; have hcz19_1 : w18.cell? ⟨gb271, 1, none⟩ = some (.int .i64 ((rd_T108 l0_1 x11_1).f1)) := (blk_cell BK271.out 1).trans rfl; have hcz19_2 : w18.cell? ⟨gb271, 2, none⟩ = some (.int .i64 ((rd_T108 l0_1 x11_1).f2)) := (blk_cell BK271.out 2).trans rfl; have hfz19_0 := blk_frozen BK271.out 0; have hfz19_1 := blk_frozen BK271.out 1; have hfz19_2 := blk_frozen BK271.out 2) | (go_at_call 68; (with_reducible refine (impl_in.calls ((rd_T108 l0_1 x11_1).f1) 0 3 true _ A13.out).mono ?_); rintro e w' ⟨rfl, ⟨nd, rfl⟩⟩) | (go_at_call 68; (with_reducible refine (impl_in.calls ((rd_T108 l0_1 x11_1).f2) 1 2 t274 _ A15.out).mono ?_); rintro e w' ⟨rfl, ⟨nd, rfl⟩⟩))
         go_meet
         case rel => exact ⟨_, (!t274), (by first | rfl | (simp; done) | (simp [*]; done)), H', ⟨by have := HK1.out; first | omega | exact Nat.le_refl _⟩, ⟨by (with_reducible repeat (first | refine blk_drewN ?_ _ | refine blk_drew ?_ | refine blk_alloc ?_ _)); exact BK268.out⟩, ⟨by (with_reducible repeat (first | refine blk_drewN ?_ _ | refine blk_drew ?_ | refine blk_alloc ?_ _)); exact BK271.out⟩, ⟨by repeat (first | (with_reducible first | exact HB.out | apply below_alloc | apply pw_below_drewN | apply below_drew1 | refine below_set ?_ GE268.out | refine below_set ?_ GE271.out) | exact HB.out)⟩⟩
        ·replace c14 := Bool.eq_false_iff.mpr c14
         subst c14
         have H1 : (impl_PrgOk.j1 k1 x11_1 l0_1 (l0_1.length : Int) x11_1 true l0_0 l0_1 ((rd_T108 l0_1 x11_1).f0) ((rd_T108 l0_1 x11_1).f1) ((rd_T108 l0_1 x11_1).f2)) = some r := by rw [if_neg (show ¬ (false = true) by decide)] at H; exact H
         clear H
         have H := H1
         clear H1
         have H' := Aside0.mk H
         clear H
         have hnb20 := NB271_268.out
         have hnc20 := NB268_271.out
         have hcz21_0 : w8.cell? ⟨gb271, 0, none⟩ = some (.string (⟨#[]⟩ : ByteArray)) := (blk_cell BK271.out 0).trans rfl
         have hcz21_1 : w8.cell? ⟨gb271, 1, none⟩ = some (.int .i64 0) := (blk_cell BK271.out 1).trans rfl
         have hcz21_2 : w8.cell? ⟨gb271, 2, none⟩ = some (.int .i64 0) := (blk_cell BK271.out 2).trans rfl
         have hfz21_0 := blk_frozen BK271.out 0
         have hfz21_1 := blk_frozen BK271.out 1
         have hfz21_2 := blk_frozen BK271.out 2
         go_wp2_with (first | ((with_reducible refine gate_callee (f := 98) rfl ?_); refine goesL_ (some 18) rfl rfl Tryd.func98 (by kernel_rfl) rfl #[.string ((rd_T108 l0_1 x11_1).f0)] rfl (by (try simp only [List.map_toArray, List.map_cons, List.map_nil]); first | done | rfl | (simp only [List.length_drop, List.length_take]; rfl)) ?_; (with_reducible refine (impl_nameOk.calls ((rd_T108 l0_1 x11_1).f0) true _ A11.out).mono ?_); rintro e w22 ⟨rfl, hb⟩; refine ⟨_, rfl, ?_⟩; have n0_ := Aside0.mk (blk_below (g := gb268) (o := .cells #[.slice A0_0 l0_0.length c0_0, .slice (some ad270) l0_1.length c0_1] 74 (0, 0)) (by (with_reducible repeat (first | refine blk_drewN ?_ _ | refine blk_drew ?_ | refine blk_alloc ?_ _)); refine blk_far ?_ NB268_271.out _; (with_reducible repeat (first | refine blk_drewN ?_ _ | refine blk_drew ?_ | refine blk_alloc ?_ _)); refine blk_far ?_ NB268_271.out _; (with_reducible repeat (first | refine blk_drewN ?_ _ | refine blk_drew ?_ | refine blk_alloc ?_ _)); refine blk_far ?_ NB268_271.out _; (with_reducible repeat (first | refine blk_drewN ?_ _ | refine blk_drew ?_ | refine blk_alloc ?_ _)); exact BK268.out) hb); have n1_ := Aside0.mk (blk_below (g := gb271) (o := .cells #[.string ((rd_T108 l0_1 x11_1).f0), .int .i64 ((rd_T108 l0_1 x11_1).f1), .int .i64 ((rd_T108 l0_1 x11_1).f2)] 108 (0, 0)) (by (with_reducible repeat (first | refine blk_drewN ?_ _ | refine blk_drew ?_ | refine blk_alloc ?_ _)); refine blk_put (cs := #[.string ((rd_T108 l0_1 x11_1).f0), .int .i64 ((rd_T108 l0_1 x11_1).f1), .int .i64 0]) ?_ 2 _ rfl; (with_reducible repeat (first | refine blk_drewN ?_ _ | refine blk_drew ?_ | refine blk_alloc ?_ _)); refine blk_put (cs := #[.string ((rd_T108 l0_1 x11_1).f0), .int .i64 0, .int .i64 0]) ?_ 1 _ rfl; (with_reducible repeat (first | refine blk_drewN ?_ _ | refine blk_drew ?_ | refine blk_alloc ?_ _)); refine blk_put (cs := #[.string (⟨#[]⟩ : ByteArray), .int .i64 0, .int .i64 0]) ?_ 0 _ rfl; (with_reducible repeat (first | refine blk_drewN ?_ _ | refine blk_drew ?_ | refine blk_alloc ?_ _)); exact BK271.out) hb); have n2_ := Aside0.mk (below_step (by repeat (first | (with_reducible first | exact HB.out | apply below_alloc | apply pw_below_drewN | apply below_drew1 | refine below_set ?_ GE268.out | refine below_set ?_ GE271.out) | exact HB.out)) hb); clear BK268; clear BK271; clear HB; have BK268 := n0_; have BK271 := n1_; have HB := n2_; clear n0_ n1_ n2_; (try clear hb); (try clear hb2); (try clear hk); (try clear hi); have hcz23_0 : w22.cell? ⟨gb271, 0, none⟩ = some (.string ((rd_T108 l0_1 x11_1).f0)) := (blk_cell BK271.out 0).trans rfl; have hcz23_1 : w22.cell? ⟨gb271, 1, none⟩ = some (.int .i64 ((rd_T108 l0_1 x11_1).f1)) := (blk_cell BK271.out 1).trans rfl; have hcz23_2 : w22.cell? ⟨gb271, 2, none⟩ = some (.int .i64 ((rd_T108 l0_1 x11_1).f2)) := (blk_cell BK271.out 2).trans rfl; have hfz23_0 := blk_frozen BK271.out 0; have hfz23_1 := blk_frozen BK271.out 1; have hfz23_2 := blk_frozen BK271.out 2) | (go_at_call 68; (with_reducible refine (impl_in.calls ((rd_T108 l0_1 x11_1).f1) 0 3 false _ A13.out).mono ?_); rintro e w' ⟨rfl, ⟨nd, rfl⟩⟩))
         go_meet
         case rel => exact ⟨_, (true), (by first | rfl | (simp; done) | (simp [*]; done)), H', ⟨by have := HK1.out; first | omega | exact Nat.le_refl _⟩, ⟨by (with_reducible repeat (first | refine blk_drewN ?_ _ | refine blk_drew ?_ | refine blk_alloc ?_ _)); exact BK268.out⟩, ⟨by (with_reducible repeat (first | refine blk_drewN ?_ _ | refine blk_drew ?_ | refine blk_alloc ?_ _)); exact BK271.out⟩, ⟨by repeat (first | (with_reducible first | exact HB.out | apply below_alloc | apply pw_below_drewN | apply below_drew1 | refine below_set ?_ GE268.out | refine below_set ?_ GE271.out) | exact HB.out)⟩⟩
       ·replace c12 := Bool.eq_false_iff.mpr c12
        subst c12
        have H1 : (impl_PrgOk.j1 k1 x11_1 l0_1 (l0_1.length : Int) x11_1 true l0_0 l0_1 ((rd_T108 l0_1 x11_1).f0) ((rd_T108 l0_1 x11_1).f1) ((rd_T108 l0_1 x11_1).f2)) = some r := by rw [if_neg (show ¬ (false = true) by decide)] at H; exact H
        clear H
        have H := H1
        clear H1
        have H' := Aside0.mk H
        clear H
        have hnb24 := NB271_268.out
        have hnc24 := NB268_271.out
        have hcz25_0 : w8.cell? ⟨gb271, 0, none⟩ = some (.string (⟨#[]⟩ : ByteArray)) := (blk_cell BK271.out 0).trans rfl
        have hcz25_1 : w8.cell? ⟨gb271, 1, none⟩ = some (.int .i64 0) := (blk_cell BK271.out 1).trans rfl
        have hcz25_2 : w8.cell? ⟨gb271, 2, none⟩ = some (.int .i64 0) := (blk_cell BK271.out 2).trans rfl
        have hfz25_0 := blk_frozen BK271.out 0
        have hfz25_1 := blk_frozen BK271.out 1
        have hfz25_2 := blk_frozen BK271.out 2
        go_wp2_with (first | ((with_reducible refine gate_callee (f := 98) rfl ?_); refine goesL_ (some 18) rfl rfl Tryd.func98 (by kernel_rfl) rfl #[.string ((rd_T108 l0_1 x11_1).f0)] rfl (by (try simp only [List.map_toArray, List.map_cons, List.map_nil]); first | done | rfl | (simp only [List.length_drop, List.length_take]; rfl)) ?_; (with_reducible refine (impl_nameOk.calls ((rd_T108 l0_1 x11_1).f0) false _ A11.out).mono ?_); rintro e w26 ⟨rfl, hb⟩; refine ⟨_, rfl, ?_⟩; have n0_ := Aside0.mk (blk_below (g := gb268) (o := .cells #[.slice A0_0 l0_0.length c0_0, .slice (some ad270) l0_1.length c0_1] 74 (0, 0)) (by (with_reducible repeat (first | refine blk_drewN ?_ _ | refine blk_drew ?_ | refine blk_alloc ?_ _)); refine blk_far ?_ NB268_271.out _; (with_reducible repeat (first | refine blk_drewN ?_ _ | refine blk_drew ?_ | refine blk_alloc ?_ _)); refine blk_far ?_ NB268_271.out _; (with_reducible repeat (first | refine blk_drewN ?_ _ | refine blk_drew ?_ | refine blk_alloc ?_ _)); refine blk_far ?_ NB268_271.out _; (with_reducible repeat (first | refine blk_drewN ?_ _ | refine blk_drew ?_ | refine blk_alloc ?_ _)); exact BK268.out) hb); have n1_ := Aside0.mk (blk_below (g := gb271) (o := .cells #[.string ((rd_T108 l0_1 x11_1).f0), .int .i64 ((rd_T108 l0_1 x11_1).f1), .int .i64 ((rd_T108 l0_1 x11_1).f2)] 108 (0, 0)) (by (with_reducible repeat (first | refine blk_drewN ?_ _ | refine blk_drew ?_ | refine blk_alloc ?_ _)); refine blk_put (cs := #[.string ((rd_T108 l0_1 x11_1).f0), .int .i64 ((rd_T108 l0_1 x11_1).f1), .int .i64 0]) ?_ 2 _ rfl; (with_reducible repeat (first | refine blk_drewN ?_ _ | refine blk_drew ?_ | refine blk_alloc ?_ _)); refine blk_put (cs := #[.string ((rd_T108 l0_1 x11_1).f0), .int .i64 0, .int .i64 0]) ?_ 1 _ rfl; (with_reducible repeat (first | refine blk_drewN ?_ _ | refine blk_drew ?_ | refine blk_alloc ?_ _)); refine blk_put (cs := #[.string (⟨#[]⟩ : ByteArray), .int .i64 0, .int .i64 0]) ?_ 0 _ rfl; (with_reducible repeat (first | refine blk_drewN ?_ _ | refine blk_drew ?_ | refine blk_alloc ?_ _)); exact BK271.out) hb); have n2_ := Aside0.mk (below_step (by repeat (first | (with_reducible first | exact HB.out | apply below_alloc | apply pw_below_drewN | apply below_drew1 | refine below_set ?_ GE268.out | refine below_set ?_ GE271.out) | exact HB.out)) hb); clear BK268; clear BK271; clear HB; have BK268 := n0_; have BK271 := n1_; have HB := n2_; clear n0_ n1_ n2_; (try clear hb); (try clear hb2); (try clear hk); (try clear hi)))
        go_meet
        case rel => exact ⟨_, (true), (by first | rfl | (simp; done) | (simp [*]; done)), H', ⟨by have := HK1.out; first | omega | exact Nat.le_refl _⟩, ⟨by (with_reducible repeat (first | refine blk_drewN ?_ _ | refine blk_drew ?_ | refine blk_alloc ?_ _)); exact BK268.out⟩, ⟨by (with_reducible repeat (first | refine blk_drewN ?_ _ | refine blk_drew ?_ | refine blk_alloc ?_ _)); exact BK271.out⟩, ⟨by repeat (first | (with_reducible first | exact HB.out | apply below_alloc | apply pw_below_drewN | apply below_drew1 | refine below_set ?_ GE268.out | refine below_set ?_ GE271.out) | exact HB.out)⟩⟩
      case rest =>
       clear HC7
       try clear c1
       try clear c2
       try clear p2
       try clear q2
       try clear hx2
       try clear c4
       try clear c4b0
       try clear c5
       try clear c5b0
       try clear c6
       try clear c6b0
       try clear c9
       try clear c12
       try clear c14
       try clear c16
       try clear c20
       try clear c24
       try clear hcz10_0
       try clear hcz10_1
       try clear hcz10_2
       try clear hcz17_0
       try clear hcz17_1
       try clear hcz17_2
       try clear hcz19_0
       try clear hcz19_1
       try clear hcz19_2
       try clear hcz21_0
       try clear hcz21_1
       try clear hcz21_2
       try clear hcz23_0
       try clear hcz23_1
       try clear hcz23_2
       try clear hcz25_0
       try clear hcz25_1
       try clear hcz25_2
       try clear hcz3_0
       try clear hcz3_1
       try clear hfz10_0
       try clear hfz10_1
       try clear hfz10_2
       try clear hfz17_0
       try clear hfz17_1
       try clear hfz17_2
       try clear hfz19_0
       try clear hfz19_1
       try clear hfz19_2
       try clear hfz21_0
       try clear hfz21_1
       try clear hfz21_2
       try clear hfz23_0
       try clear hfz23_1
       try clear hfz23_2
       try clear hfz25_0
       try clear hfz25_1
       try clear hfz25_2
       try clear hfz3_0
       try clear hfz3_1
       try clear hx270_0
       try clear hx270_1
       try clear hx270_2
       try clear p2
       try clear p270
       try clear q270
       obtain ⟨kq, x31_6, rfl, HA, HJ6, BK268, BK271, HB⟩ := hcut
       cases kq with
       | zero => exact absurd HA.out (by simp [impl_PrgOk.j1])
       | succ kj6 =>
        have H := HA.out
        clear HA
        simp only [impl_PrgOk.j1] at H
        by_cases c27 : x31_6 = true
        ·subst c27
         have H1 : (some false) = some r := by rw [if_pos rfl] at H; exact H
         clear H
         have H := H1
         clear H1
         obtain rfl := Option.some.inj H
         go_wp2
         go_ret
         exact ⟨by first | rfl | (simp [errW_none, errW_some] <;> rfl) | (simp [*, errW_none, errW_some] <;> rfl), by repeat (first | (with_reducible first | exact HB.out | apply below_alloc | apply pw_below_drewN | apply below_drew1 | refine below_set ?_ GE268.out | refine below_set ?_ GE271.out) | exact HB.out)⟩
        ·replace c27 := Bool.eq_false_iff.mpr c27
         subst c27
         have H1 : (if 0 ≤ x11_1 then (if x11_1 ≤ (l0_1.length : Int) then ((some (l0_1.take (x11_1 : Int).toNat : List (S108))).bind fun y275 => (impl_PrgOk.l1 kj6 l0_1 (l0_1.length : Int) x11_1 y275 (y275.length : Int) 0 l0_0 l0_1 ((rd_T108 l0_1 x11_1).f0) ((rd_T108 l0_1 x11_1).f1) ((rd_T108 l0_1 x11_1).f2))) else (none)) else (none)) = some r := by rw [if_neg (show ¬ (false = true) by decide)] at H; exact H
         clear H
         have H := H1
         clear H1
         by_cases c28 : 0 ≤ x11_1
         ·rw [if_pos c28] at H
          have c28b0 := eq_true c28
          have c28b1 : decide (0 ≤ x11_1) = true := decide_eq_true c28
          clear c28
          by_cases c29 : x11_1 ≤ (l0_1.length : Int)
          ·rw [if_pos c29] at H
           have c29b0 := eq_true c29
           have c29b1 : decide (x11_1 ≤ (l0_1.length : Int)) = true := decide_eq_true c29
           clear c29
           obtain ⟨y275, hy275⟩ : ∃ y_ : List (S108), y_ = (l0_1.take (x11_1 : Int).toNat) := ⟨_, rfl⟩
           replace H : (impl_PrgOk.l1 kj6 l0_1 (l0_1.length : Int) x11_1 y275 (y275.length : Int) 0 l0_0 l0_1 ((rd_T108 l0_1 x11_1).f0) ((rd_T108 l0_1 x11_1).f1) ((rd_T108 l0_1 x11_1).f2)) = some r := by first | (rw [hy275]; with_reducible exact H) | (have H2_ := (Option.bind_some _ _).symm.trans H; rw [hy275]; with_reducible exact H2_) | (have H2_ := (Option.bind_some _ _).symm.trans H; with_reducible exact H2_) | with_reducible exact H | (rw [hy275]; exact H) | exact H
           have Ny275 := Aside0.mk hy275
           clear hy275
           have H' := Aside0.mk H
           clear H
           have hnb30 := NB268_271.out
           have hnc30 := NB271_268.out
           have hcz31_0 : wc.cell? ⟨gb268, 0, none⟩ = some (.slice A0_0 l0_0.length c0_0) := (blk_cell BK268.out 0).trans rfl
           have hcz31_1 : wc.cell? ⟨gb268, 1, none⟩ = some (.slice (some ad270) l0_1.length c0_1) := (blk_cell BK268.out 1).trans rfl
           have hfz31_0 := blk_frozen BK268.out 0
           have hfz31_1 := blk_frozen BK268.out 1
           have q32 : (x11_1 : Int) ≤ ((l0_1.length : Int) : Int) := of_decide_eq_true (by first | (with_reducible assumption) | assumption)
           obtain ⟨i032, hi032, _, hsz32, _⟩ := info_parts info108
           have hroom32 : l0_1.length ≤ c0_1 := HC0_1.out
           have hC32 : Kd.C k108 _ (some ad270) l0_1.length l0_1 := HR0_1.out
           have hcut32 := cut_to (P := Tryd.prog) 72 108 .i64 Tryd.underlying72 hi032 (some ad270) l0_1.length c0_1 x11_1 (of_decide_eq_true (by first | (with_reducible assumption) | assumption)) q32 hroom32
           have hr32 := Kd.C_take (m := (x11_1 : Int).toNat) hC32 (by omega)
           have hy32 : y275.length = (x11_1 : Int).toNat := (by rw [Ny275.out, List.length_take]; omega)
           rw [← Ny275.out] at hr32
           rw [← hy32] at hcut32
           have HR278 := Aside0.mk hr32
           have HC278 := Aside0.mk (show y275.length ≤ c0_1 from by omega)
           clear hr32 hC32 hroom32 hi032 hsz32
           have KY32 := Aside0.mk hy32
           clear hy32
           replace q32 := eq_true q32
           go_wp2
           go_loopg [37] kj6 (fun kq v37 w' => ∃ (x37_3 : Int), v37 = .int .i64 x37_3 ∧ Aside0 (impl_PrgOk.l1 kq l0_1 (l0_1.length : Int) x11_1 y275 (y275.length : Int) x37_3 l0_0 l0_1 ((rd_T108 l0_1 x11_1).f0) ((rd_T108 l0_1 x11_1).f1) ((rd_T108 l0_1 x11_1).f2) = some r) ∧ Aside0 (kq ≤ kj6) ∧ Aside0 (w'.heap[gb268]? = some (.cells #[(.slice A0_0 l0_0.length c0_0), (.slice (some ad270) l0_1.length c0_1)] 74 (0, 0))) ∧ Aside0 (w'.heap[gb271]? = some (.cells #[.string ((rd_T108 l0_1 x11_1).f0), .int .i64 ((rd_T108 l0_1 x11_1).f1), .int .i64 ((rd_T108 l0_1 x11_1).f2)] 108 (0, 0))) ∧ Aside0 (Below w.heap.size w w'))
           case atStart => exact ⟨(0), (by first | rfl | (simp; done) | (simp [*]; done)), H', ⟨Nat.le_refl _⟩, ⟨by (with_reducible repeat (first | refine blk_drewN ?_ _ | refine blk_drew ?_ | refine blk_alloc ?_ _)); exact BK268.out⟩, ⟨by (with_reducible repeat (first | refine blk_drewN ?_ _ | refine blk_drew ?_ | refine blk_alloc ?_ _)); exact BK271.out⟩, ⟨by repeat (first | (with_reducible first | exact HB.out | apply below_alloc | apply pw_below_drewN | apply below_drew1 | refine below_set ?_ GE268.out | refine below_set ?_ GE271.out) | exact HB.out)⟩⟩
           case round =>
            clear H'
            try clear c1
            try clear c2
            try clear p2
            try clear q2
            try clear hx2
            try clear c3
            try clear q3
            try clear c4
            try clear c4b0
            try clear c5
            try clear c5b0
            try clear c6
            try clear c6b0
            try clear c9
            try clear c12
            try clear c14
            try clear c16
            try clear c20
            try clear c24
            try clear c27
            try clear p27
            try clear q27
            try clear hx27
            try clear c28
            try clear c28b0
            try clear c28b1
            try clear c29
            try clear c29b0
            try clear c29b1
            try clear c30
            try clear q32
            try clear hcz10_0
            try clear hcz10_1
            try clear hcz10_2
            try clear hcz17_0
            try clear hcz17_1
            try clear hcz17_2
            try clear hcz19_0
            try clear hcz19_1
            try clear hcz19_2
            try clear hcz21_0
            try clear hcz21_1
            try clear hcz21_2
            try clear hcz23_0
            try clear hcz23_1
            try clear hcz23_2
            try clear hcz25_0
            try clear hcz25_1
            try clear hcz25_2
            try clear hcz31_0
            try clear hcz31_1
            try clear hcz3_0
            try clear hcz3_1
            try clear hfz10_0
            try clear hfz10_1
            try clear hfz10_2
            try clear hfz17_0
            try clear hfz17_1
            try clear hfz17_2
            try clear hfz19_0
            try clear hfz19_1
            try clear hfz19_2
            try clear hfz21_0
            try clear hfz21_1
            try clear hfz21_2
            try clear hfz23_0
            try clear hfz23_1
            try clear hfz23_2
            try clear hfz25_0
            try clear hfz25_1
            try clear hfz25_2
            try clear hfz31_0
            try clear hfz31_1
            try clear hfz3_0
            try clear hfz3_1
            try clear hx270_0
            try clear hx270_1
            try clear hx270_2
            try clear p2
            try clear p270
            try clear q2
            try clear q270
            try clear q32
            obtain ⟨x37_3, rfl, HA, HK3, BK268, BK271, HB⟩ := hrel
            cases gk with
            | zero => exact absurd HA.out (by simp [impl_PrgOk.l1])
            | succ k3 =>
             have H := HA.out
             clear HA
             simp only [impl_PrgOk.l1] at H
             by_cases c33 : x37_3 < (y275.length : Int)
             ·rw [if_pos c33] at H
              have c33b0 : decide (x37_3 < (y275.length : Int)) = true := decide_eq_true c33
              clear c33
              by_cases c34 : 0 ≤ x37_3
              ·rw [if_pos c34] at H
               have c34b0 : decide (0 ≤ x37_3) = true := decide_eq_true c34
               clear c34
               by_cases c35 : x37_3 < (y275.length : Int)
               ·rw [if_pos c35] at H
                have c35b0 : decide (x37_3 < (y275.length : Int)) = true := decide_eq_true c35
                clear c35
                by_cases c36 : ((rd_T108 l0_1 x11_1).f0).toList = ((rd_T108 y275 x37_3).f0).toList
                ·rw [if_pos c36] at H
                 have c36b0 : (((rd_T108 l0_1 x11_1).f0).toList == ((rd_T108 y275 x37_3).f0).toList) = true := beq_iff_eq.mpr c36
                 have c36b1 : (((rd_T108 l0_1 x11_1).f0).toList != ((rd_T108 y275 x37_3).f0).toList) = false := bne_eq_false_iff_eq.mpr c36
                 clear c36
                 by_cases c37 : ((rd_T108 l0_1 x11_1).f1) = ((rd_T108 y275 x37_3).f1)
                 ·rw [if_pos c37] at H
                  have c37b0 : (((rd_T108 l0_1 x11_1).f1) == ((rd_T108 y275 x37_3).f1)) = true := beq_iff_eq.mpr c37
                  have c37b1 : (((rd_T108 l0_1 x11_1).f1) != ((rd_T108 y275 x37_3).f1)) = false := bne_eq_false_iff_eq.mpr c37
                  clear c37
                  obtain rfl := Option.some.inj H
                  have p279 : 0 ≤ (x37_3 : Int) := of_decide_eq_true (by first | (with_reducible assumption) | assumption)
                  have q279 : x37_3 < (y275.length : Int) := of_decide_eq_true (by first | (with_reducible assumption) | assumption)
                  obtain ⟨ad279, e279, hx279_0, hx279_1, hx279_2⟩ := at_T108 HR278.out x37_3 p279 q279
                  obtain rfl : ad270 = ad279 := (by injection e279)
                  replace hx279_0 := (HB.out.cell (World.block_lt_of_cell? w _ hx279_0)).trans hx279_0
                  replace hx279_1 := (HB.out.cell (World.block_lt_of_cell? w _ hx279_1)).trans hx279_1
                  replace hx279_2 := (HB.out.cell (World.block_lt_of_cell? w _ hx279_2)).trans hx279_2
                  replace p279 := eq_true p279
                  replace q279 := eq_true q279
                  go_wp2_with (first | ((with_reducible refine gate_dst (N := 6) rfl ?_); (try (refine gate_guard (by rfl) ?_; dsimp only)); refine box_event ?hg (N := 6) ?hd (cs := #[.string (⟨#[]⟩ : ByteArray), .int .i64 0, .int .i64 0]) (t := 108) ?hr ?_; (case hd => rfl); (case hg => rfl); (case hr => first | (go_simp; done) | (go_simp; rfl)); intro gb280 hg w38 hbox hb; have n0_ := Aside0.mk (blk_below (g := gb268) (o := .cells #[.slice A0_0 l0_0.length c0_0, .slice (some ad270) l0_1.length c0_1] 74 (0, 0)) (by (with_reducible repeat (first | refine blk_drewN ?_ _ | refine blk_drew ?_ | refine blk_alloc ?_ _)); exact BK268.out) hb); have n1_ := Aside0.mk (blk_below (g := gb271) (o := .cells #[.string ((rd_T108 l0_1 x11_1).f0), .int .i64 ((rd_T108 l0_1 x11_1).f1), .int .i64 ((rd_T108 l0_1 x11_1).f2)] 108 (0, 0)) (by (with_reducible repeat (first | refine blk_drewN ?_ _ | refine blk_drew ?_ | refine blk_alloc ?_ _)); exact BK271.out) hb); have n2_ := Aside0.mk (below_step (by repeat (first | (with_reducible first | exact HB.out | apply below_alloc | apply pw_below_drewN | apply below_drew1 | refine below_set ?_ GE268.out | refine below_set ?_ GE271.out) | exact HB.out)) hb); have n3_ := Aside0.mk (hbox); have n4_ := Aside0.mk ((by rw [hg]; exact (below_size (by repeat (first | (with_reducible first | exact HB.out | apply below_alloc | apply pw_below_drewN | apply below_drew1 | refine below_set ?_ GE268.out | refine below_set ?_ GE271.out) | exact HB.out))) : w.heap.size ≤ gb280)); have n5_ := Aside0.mk ((by rw [hg]; exact (below_size (by repeat (first | (with_reducible first | exact HB.out | apply below_alloc | apply pw_below_drewN | apply below_drew1 | refine below_set ?_ GE268.out | refine below_set ?_ GE271.out) | exact HB.out))) : w.heap.size ≤ gb280)); have n6_ := Aside0.mk ((by rw [hg]; exact Nat.ne_of_lt (blk_lt (g := gb268) (o := .cells #[.slice A0_0 l0_0.length c0_0, .slice (some ad270) l0_1.length c0_1] 74 (0, 0)) (by (with_reducible repeat (first | refine blk_drewN ?_ _ | refine blk_drew ?_ | refine blk_alloc ?_ _)); exact BK268.out)) : gb268 ≠ gb280)); have n7_ := Aside0.mk ((by rw [hg]; exact Nat.ne_of_gt (blk_lt (g := gb268) (o := .cells #[.slice A0_0 l0_0.length c0_0, .slice (some ad270) l0_1.length c0_1] 74 (0, 0)) (by (with_reducible repeat (first | refine blk_drewN ?_ _ | refine blk_drew ?_ | refine blk_alloc ?_ _)); exact BK268.out)) : gb280 ≠ gb268)); have n8_ := Aside0.mk ((by rw [hg]; exact Nat.ne_of_lt (blk_lt (g := gb271) (o := .cells #[.string ((rd_T108 l0_1 x11_1).f0), .int .i64 ((rd_T108 l0_1 x11_1).f1), .int .i64 ((rd_T108 l0_1 x11_1).f2)] 108 (0, 0)) (by (with_reducible repeat (first | refine blk_drewN ?_ _ | refine blk_drew ?_ | refine blk_alloc ?_ _)); exact BK271.out)) : gb271 ≠ gb280)); have n9_ := Aside0.mk ((by rw [hg]; exact Nat.ne_of_gt (blk_lt (g := gb271) (o := .cells #[.string ((rd_T108 l0_1 x11_1).f0), .int .i64 ((rd_T108 l0_1 x11_1).f1), .int .i64 ((rd_T108 l0_1 x11_1).f2)] 108 (0, 0)) (by (with_reducible repeat (first | refine blk_drewN ?_ _ | refine blk_drew ?_ | refine blk_alloc ?_ _)); exact BK271.out)) : gb280 ≠ gb271)); clear BK268; clear BK271; clear HB; have BK268 := n0_; have BK271 := n1_; have HB := n2_; have BK280 := n3_; have GW280 := n4_; have GE280 := n5_; have NB268_280 := n6_; have NB280_268 := n7_; have NB271_280 := n8_; have NB280_271 := n9_; clear n0_ n1_ n2_ n3_ n4_ n5_ n6_ n7_ n8_ n9_; clear hb hbox hg; have hnb39 := NB280_268.out; have hnc39 := NB268_280.out; have hnb40 := NB280_271.out; have hnc40 := NB271_280.out; have hcz41_0 : w38.cell? ⟨gb280, 0, none⟩ = some (.string (⟨#[]⟩ : ByteArray)) := (blk_cell BK280.out 0).trans rfl; have hcz41_1 : w38.cell? ⟨gb280, 1, none⟩ = some (.int .i64 0) := (blk_cell BK280.out 1).trans rfl; have hcz41_2 : w38.cell? ⟨gb280, 2, none⟩ = some (.int .i64 0) := (blk_cell BK280.out 2).trans rfl; have hfz41_0 := blk_frozen BK280.out 0; have hfz41_1 := blk_frozen BK280.out 1; have hfz41_2 := blk_frozen BK280.out 2; have hnb42 := NB271_268.out; have hnc42 := NB268_271.out; have hcz43_0 : w38.cell? ⟨gb271, 0, none⟩ = some (.string ((rd_T108 l0_1 x11_1).f0)) := (blk_cell BK271.out 0).trans rfl; have hcz43_1 : w38.cell? ⟨gb271, 1, none⟩ = some (.int .i64 ((rd_T108 l0_1 x11_1).f1)) := (blk_cell BK271.out 1).trans rfl; have hcz43_2 : w38.cell? ⟨gb271, 2, none⟩ = some (.int .i64 ((rd_T108 l0_1 x11_1).f2)) := (blk_cell BK271.out 2).trans rfl; have hfz43_0 := blk_frozen BK271.out 0; have hfz43_1 := blk_frozen BK271.out 1; have hfz43_2 := blk_frozen BK271.out 2))
                  go_ret
                  exact ⟨by first | rfl | (simp [errW_none, errW_some] <;> rfl) | (simp [*, errW_none, errW_some] <;> rfl), by repeat (first | (with_reducible first | exact HB.out | apply below_alloc | apply pw_below_drewN | apply below_drew1 | refine below_set ?_ GE268.out | refine below_set ?_ GE271.out | refine below_set ?_ GE280.out) | exact HB.out)⟩
                 ·rw [if_neg c37] at H
                  have c37b0 : (((rd_T108 l0_1 x11_1).f1) == ((rd_T108 y275 x37_3).f1)) = false := beq_eq_false_iff_ne.mpr c37
                  have c37b1 : (((rd_T108 l0_1 x11_1).f1) != ((rd_T108 y275 x37_3).f1)) = true := bne_iff_ne.mpr c37
                  have H' := Aside0.mk H
                  clear H
                  have p279 : 0 ≤ (x37_3 : Int) := of_decide_eq_true (by first | (with_reducible assumption) | assumption)
                  have q279 : x37_3 < (y275.length : Int) := of_decide_eq_true (by first | (with_reducible assumption) | assumption)
                  obtain ⟨ad279, e279, hx279_0, hx279_1, hx279_2⟩ := at_T108 HR278.out x37_3 p279 q279
                  obtain rfl : ad270 = ad279 := (by injection e279)
                  replace hx279_0 := (HB.out.cell (World.block_lt_of_cell? w _ hx279_0)).trans hx279_0
                  replace hx279_1 := (HB.out.cell (World.block_lt_of_cell? w _ hx279_1)).trans hx279_1
                  replace hx279_2 := (HB.out.cell (World.block_lt_of_cell? w _ hx279_2)).trans hx279_2
                  replace p279 := eq_true p279
                  replace q279 := eq_true q279
                  go_wp2_with (first | ((with_reducible refine gate_dst (N := 6) rfl ?_); (try (refine gate_guard (by rfl) ?_; dsimp only)); refine box_event ?hg (N := 6) ?hd (cs := #[.string (⟨#[]⟩ : ByteArray), .int .i64 0, .int .i64 0]) (t := 108) ?hr ?_; (case hd => rfl); (case hg => rfl); (case hr => first | (go_simp; done) | (go_simp; rfl)); intro gb280 hg w44 hbox hb; have n0_ := Aside0.mk (blk_below (g := gb268) (o := .cells #[.slice A0_0 l0_0.length c0_0, .slice (some ad270) l0_1.length c0_1] 74 (0, 0)) (by (with_reducible repeat (first | refine blk_drewN ?_ _ | refine blk_drew ?_ | refine blk_alloc ?_ _)); exact BK268.out) hb); have n1_ := Aside0.mk (blk_below (g := gb271) (o := .cells #[.string ((rd_T108 l0_1 x11_1).f0), .int .i64 ((rd_T108 l0_1 x11_1).f1), .int .i64 ((rd_T108 l0_1 x11_1).f2)] 108 (0, 0)) (by (with_reducible repeat (first | refine blk_drewN ?_ _ | refine blk_drew ?_ | refine blk_alloc ?_ _)); exact BK271.out) hb); have n2_ := Aside0.mk (below_step (by repeat (first | (with_reducible first | exact HB.out | apply below_alloc | apply pw_below_drewN | apply below_drew1 | refine below_set ?_ GE268.out | refine below_set ?_ GE271.out) | exact HB.out)) hb); have n3_ := Aside0.mk (hbox); have n4_ := Aside0.mk ((by rw [hg]; exact (below_size (by repeat (first | (with_reducible first | exact HB.out | apply below_alloc | apply pw_below_drewN | apply below_drew1 | refine below_set ?_ GE268.out | refine below_set ?_ GE271.out) | exact HB.out))) : w.heap.size ≤ gb280)); have n5_ := Aside0.mk ((by rw [hg]; exact (below_size (by repeat (first | (with_reducible first | exact HB.out | apply below_alloc | apply pw_below_drewN | apply below_drew1 | refine below_set ?_ GE268.out | refine below_set ?_ GE271.out) | exact HB.out))) : w.heap.size ≤ gb280)); have n6_ := Aside0.mk ((by rw [hg]; exact Nat.ne_of_lt (blk_lt (g := gb268) (o := .cells #[.slice A0_0 l0_0.length c0_0, .slice (some ad270) l0_1.length c0_1] 74 (0, 0)) (by (with_reducible repeat (first | refine blk_drewN ?_ _ | refine blk_drew ?_ | refine blk_alloc ?_ _)); exact BK268.out)) : gb268 ≠ gb280)); have n7_ := Aside0.mk ((by rw [hg]; exact Nat.ne_of_gt (blk_lt (g := gb268) (o := .cells #[.slice A0_0 l0_0.length c0_0, .slice (some ad270) l0_1.length c0_1] 74 (0, 0)) (by (with_reducible repeat (first | refine blk_drewN ?_ _ | refine blk_drew ?_ | refine blk_alloc ?_ _)); exact BK268.out)) : gb280 ≠ gb268)); have n8_ := Aside0.mk ((by rw [hg]; exact Nat.ne_of_lt (blk_lt (g := gb271) (o := .cells #[.string ((rd_T108 l0_1 x11_1).f0), .int .i64 ((rd_T108 l0_1 x11_1).f1), .int .i64 ((rd_T108 l0_1 x11_1).f2)] 108 (0, 0)) (by (with_reducible repeat (first | refine blk_drewN ?_ _ | refine blk_drew ?_ | refine blk_alloc ?_ _)); exact BK271.out)) : gb271 ≠ gb280)); have n9_ := Aside0.mk ((by rw [hg]; exact Nat.ne_of_gt (blk_lt (g := gb271) (o := .cells #[.string ((rd_T108 l0_1 x11_1).f0), .int .i64 ((rd_T108 l0_1 x11_1).f1), .int .i64 ((rd_T108 l0_1 x11_1).f2)] 108 (0, 0)) (by (with_reducible repeat (first | refine blk_drewN ?_ _ | refine blk_drew ?_ | refine blk_alloc ?_ _)); exact BK271.out)) : gb280 ≠ gb271)); clear BK268; clear BK271; clear HB; have BK268 := n0_; have BK271 := n1_; have HB := n2_; have BK280 := n3_; have GW280 := n4_; have GE280 := n5_; have NB268_280 := n6_; have NB280_268 := n7_; have NB271_280 := n8_; have NB280_271 := n9_; clear n0_ n1_ n2_ n3_ n4_ n5_ n6_ n7_ n8_ n9_; clear hb hbox hg; have hnb45 := NB280_268.out; have hnc45 := NB268_280.out; have hnb46 := NB280_271.out; have hnc46 := NB271_280.out; have hcz47_0 : w44.cell? ⟨gb280, 0, none⟩ = some (.string (⟨#[]⟩ : ByteArray)) := (blk_cell BK280.out 0).trans rfl; have hcz47_1 : w44.cell? ⟨gb280, 1, none⟩ = some (.int .i64 0) := (blk_cell BK280.out 1).trans rfl; have hcz47_2 : w44.cell? ⟨gb280, 2, none⟩ = some (.int .i64 0) := (blk_cell BK280.out 2).trans rfl; have hfz47_0 := blk_frozen BK280.out 0; have hfz47_1 := blk_frozen BK280.out 1; have hfz47_2 := blk_frozen BK280.out 2; have hnb48 := NB271_268.out; have hnc48 := NB268_271.out; have hcz49_0 : w44.cell? ⟨gb271, 0, none⟩ = some (.string ((rd_T108 l0_1 x11_1).f0)) := (blk_cell BK271.out 0).trans rfl; have hcz49_1 : w44.cell? ⟨gb271, 1, none⟩ = some (.int .i64 ((rd_T108 l0_1 x11_1).f1)) := (blk_cell BK271.out 1).trans rfl; have hcz49_2 : w44.cell? ⟨gb271, 2, none⟩ = some (.int .i64 ((rd_T108 l0_1 x11_1).f2)) := (blk_cell BK271.out 2).trans rfl; have hfz49_0 := blk_frozen BK271.out 0; have hfz49_1 := blk_frozen BK271.out 1; have hfz49_2 := blk_frozen BK271.out 2))
                  go_roundg k3
                  case measure => have := HK1.out; have := HJ6.out; have := HK3.out; omega
                  case rel => exact ⟨(wrap64 (x37_3 + 1)), (by first | rfl | (simp; done) | (simp [*]; done)), H', ⟨by have := HK1.out; have := HJ6.out; have := HK3.out; omega⟩, ⟨by (with_reducible repeat (first | refine blk_drewN ?_ _ | refine blk_drew ?_ | refine blk_alloc ?_ _)); refine blk_far ?_ NB268_280.out _; (with_reducible repeat (first | refine blk_drewN ?_ _ | refine blk_drew ?_ | refine blk_alloc ?_ _)); refine blk_far ?_ NB268_280.out _; (with_reducible repeat (first | refine blk_drewN ?_ _ | refine blk_drew ?_ | refine blk_alloc ?_ _)); refine blk_far ?_ NB268_280.out _; (with_reducible repeat (first | refine blk_drewN ?_ _ | refine blk_drew ?_ | refine blk_alloc ?_ _)); exact BK268.out⟩, ⟨by (with_reducible repeat (first | refine blk_drewN ?_ _ | refine blk_drew ?_ | refine blk_alloc ?_ _)); refine blk_far ?_ NB271_280.out _; (with_reducible repeat (first | refine blk_drewN ?_ _ | refine blk_drew ?_ | refine blk_alloc ?_ _)); refine blk_far ?_ NB271_280.out _; (with_reducible repeat (first | refine blk_drewN ?_ _ | refine blk_drew ?_ | refine blk_alloc ?_ _)); refine blk_far ?_ NB271_280.out _; (with_reducible repeat (first | refine blk_drewN ?_ _ | refine blk_drew ?_ | refine blk_alloc ?_ _)); exact BK271.out⟩, ⟨by repeat (first | (with_reducible first | exact HB.out | apply below_alloc | apply pw_below_drewN | apply below_drew1 | refine below_set ?_ GE268.out | refine below_set ?_ GE271.out | refine below_set ?_ GE280.out) | exact HB.out)⟩⟩
                ·rw [if_neg c36] at H
                 have c36b0 : (((rd_T108 l0_1 x11_1).f0).toList == ((rd_T108 y275 x37_3).f0).toList) = false := beq_eq_false_iff_ne.mpr c36
                 have c36b1 : (((rd_T108 l0_1 x11_1).f0).toList != ((rd_T108 y275 x37_3).f0).toList) = true := bne_iff_ne.mpr c36
                 have H' := Aside0.mk H
                 clear H
                 have p279 : 0 ≤ (x37_3 : Int) := of_decide_eq_true (by first | (with_reducible assumption) | assumption)
                 have q279 : x37_3 < (y275.length : Int) := of_decide_eq_true (by first | (with_reducible assumption) | assumption)
                 obtain ⟨ad279, e279, hx279_0, hx279_1, hx279_2⟩ := at_T108 HR278.out x37_3 p279 q279
                 obtain rfl : ad270 = ad279 := (by injection e279)
                 replace hx279_0 := (HB.out.cell (World.block_lt_of_cell? w _ hx279_0)).trans hx279_0
                 replace hx279_1 := (HB.out.cell (World.block_lt_of_cell? w _ hx279_1)).trans hx279_1
                 replace hx279_2 := (HB.out.cell (World.block_lt_of_cell? w _ hx279_2)).trans hx279_2
                 replace p279 := eq_true p279
                 replace q279 := eq_true q279
                 go_wp2_with (first | ((with_reducible refine gate_dst (N := 6) rfl ?_); (try (refine gate_guard (by rfl) ?_; dsimp only)); refine box_event ?hg (N := 6) ?hd (cs := #[.string (⟨#[]⟩ : ByteArray), .int .i64 0, .int .i64 0]) (t := 108) ?hr ?_; (case hd => rfl); (case hg => rfl); (case hr => first | (go_simp; done) | (go_simp; rfl)); intro gb280 hg w50 hbox hb; have n0_ := Aside0.mk (blk_below (g := gb268) (o := .cells #[.slice A0_0 l0_0.length c0_0, .slice (some ad270) l0_1.length c0_1] 74 (0, 0)) (by (with_reducible repeat (first | refine blk_drewN ?_ _ | refine blk_drew ?_ | refine blk_alloc ?_ _)); exact BK268.out) hb); have n1_ := Aside0.mk (blk_below (g := gb271) (o := .cells #[.string ((rd_T108 l0_1 x11_1).f0), .int .i64 ((rd_T108 l0_1 x11_1).f1), .int .i64 ((rd_T108 l0_1 x11_1).f2)] 108 (0, 0)) (by (with_reducible repeat (first | refine blk_drewN ?_ _ | refine blk_drew ?_ | refine blk_alloc ?_ _)); exact BK271.out) hb); have n2_ := Aside0.mk (below_step (by repeat (first | (with_reducible first | exact HB.out | apply below_alloc | apply pw_below_drewN | apply below_drew1 | refine below_set ?_ GE268.out | refine below_set ?_ GE271.out) | exact HB.out)) hb); have n3_ := Aside0.mk (hbox); have n4_ := Aside0.mk ((by rw [hg]; exact (below_size (by repeat (first | (with_reducible first | exact HB.out | apply below_alloc | apply pw_below_drewN | apply below_drew1 | refine below_set ?_ GE268.out | refine below_set ?_ GE271.out) | exact HB.out))) : w.heap.size ≤ gb280)); have n5_ := Aside0.mk ((by rw [hg]; exact (below_size (by repeat (first | (with_reducible first | exact HB.out | apply below_alloc | apply pw_below_drewN | apply below_drew1 | refine below_set ?_ GE268.out | refine below_set ?_ GE271.out) | exact HB.out))) : w.heap.size ≤ gb280)); have n6_ := Aside0.mk ((by rw [hg]; exact Nat.ne_of_lt (blk_lt (g := gb268) (o := .cells #[.slice A0_0 l0_0.length c0_0, .slice (some ad270) l0_1.length c0_1] 74 (0, 0)) (by (with_reducible repeat (first | refine blk_drewN ?_ _ | refine blk_drew ?_ | refine blk_alloc ?_ _)); exact BK268.out)) : gb268 ≠ gb280)); have n7_ := Aside0.mk ((by rw [hg]; exact Nat.ne_of_gt (blk_lt (g := gb268) (o := .cells #[.slice A0_0 l0_0.length c0_0, .slice (some ad270) l0_1.length c0_1] 74 (0, 0)) (by (with_reducible repeat (first | refine blk_drewN ?_ _ | refine blk_drew ?_ | refine blk_alloc ?_ _)); exact BK268.out)) : gb280 ≠ gb268)); have n8_ := Aside0.mk ((by rw [hg]; exact Nat.ne_of_lt (blk_lt (g := gb271) (o := .cells #[.string ((rd_T108 l0_1 x11_1).f0), .int .i64 ((rd_T108 l0_1 x11_1).f1), .int .i64 ((rd_T108 l0_1 x11_1).f2)] 108 (0, 0)) (by (with_reducible repeat (first | refine blk_drewN ?_ _ | refine blk_drew ?_ | refine blk_alloc ?_ _)); exact BK271.out)) : gb271 ≠ gb280)); have n9_ := Aside0.mk ((by rw [hg]; exact Nat.ne_of_gt (blk_lt (g := gb271) (o := .cells #[.string ((rd_T108 l0_1 x11_1).f0), .int .i64 ((rd_T108 l0_1 x11_1).f1), .int .i64 ((rd_T108 l0_1 x11_1).f2)] 108 (0, 0)) (by (with_reducible repeat (first | refine blk_drewN ?_ _ | refine blk_drew ?_ | refine blk_alloc ?_ _)); exact BK271.out)) : gb280 ≠ gb271)); clear BK268; clear BK271; clear HB; have BK268 := n0_; have BK271 := n1_; have HB := n2_; have BK280 := n3_; have GW280 := n4_; have GE280 := n5_; have NB268_280 := n6_; have NB280_268 := n7_; have NB271_280 := n8_; have NB280_271 := n9_; clear n0_ n1_ n2_ n3_ n4_ n5_ n6_ n7_ n8_ n9_; clear hb hbox hg; have hnb51 := NB280_268.out; have hnc51 := NB268_280.out; have hnb52 := NB280_271.out; have hnc52 := NB271_280.out; have hcz53_0 : w50.cell? ⟨gb280, 0, none⟩ = some (.string (⟨#[]⟩ : ByteArray)) := (blk_cell BK280.out 0).trans rfl; have hcz53_1 : w50.cell? ⟨gb280, 1, none⟩ = some (.int .i64 0) := (blk_cell BK280.out 1).trans rfl; have hcz53_2 : w50.cell? ⟨gb280, 2, none⟩ = some (.int .i64 0) := (blk_cell BK280.out 2).trans rfl; have hfz53_0 := blk_frozen BK280.out 0; have hfz53_1 := blk_frozen BK280.out 1; have hfz53_2 := blk_frozen BK280.out 2; have hnb54 := NB271_268.out; have hnc54 := NB268_271.out; have hcz55_0 : w50.cell? ⟨gb271, 0, none⟩ = some (.string ((rd_T108 l0_1 x11_1).f0)) := (blk_cell BK271.out 0).trans rfl; have hcz55_1 : w50.cell? ⟨gb271, 1, none⟩ = some (.int .i64 ((rd_T108 l0_1 x11_1).f1)) := (blk_cell BK271.out 1).trans rfl; have hcz55_2 : w50.cell? ⟨gb271, 2, none⟩ = some (.int .i64 ((rd_T108 l0_1 x11_1).f2)) := (blk_cell BK271.out 2).trans rfl; have hfz55_0 := blk_frozen BK271.out 0; have hfz55_1 := blk_frozen BK271.out 1; have hfz55_2 := blk_frozen BK271.out 2))
                 go_roundg k3
                 case measure => have := HK1.out; have := HJ6.out; have := HK3.out; omega
                 case rel => exact ⟨(wrap64 (x37_3 + 1)), (by first | rfl | (simp; done) | (simp [*]; done)), H', ⟨by have := HK1.out; have := HJ6.out; have := HK3.out; omega⟩, ⟨by (with_reducible repeat (first | refine blk_drewN ?_ _ | refine blk_drew ?_ | refine blk_alloc ?_ _)); refine blk_far ?_ NB268_280.out _; (with_reducible repeat (first | refine blk_drewN ?_ _ | refine blk_drew ?_ | refine blk_alloc ?_ _)); refine blk_far ?_ NB268_280.out _; (with_reducible repeat (first | refine blk_drewN ?_ _ | refine blk_drew ?_ | refine blk_alloc ?_ _)); refine blk_far ?_ NB268_280.out _; (with_reducible repeat (first | refine blk_drewN ?_ _ | refine blk_drew ?_ | refine blk_alloc ?_ _)); exact BK268.out⟩, ⟨by (with_reducible repeat (first | refine blk_drewN ?_ _ | refine blk_drew ?_ | refine blk_alloc ?_ _)); refine blk_far ?_ NB271_280.out _; (with_reducible repeat (first | refine blk_drewN ?_ _ | refine blk_drew ?_ | refine blk_alloc ?_ _)); refine blk_far ?_ NB271_280.out _; (with_reducible repeat (first | refine blk_drewN ?_ _ | refine blk_drew ?_ | refine blk_alloc ?_ _)); refine blk_far ?_ NB271_280.out _; (with_reducible repeat (first | refine blk_drewN ?_ _ | refine blk_drew ?_ | refine blk_alloc ?_ _)); exact BK271.out⟩, ⟨by repeat (first | (with_reducible first | exact HB.out | apply below_alloc | apply pw_below_drewN | apply below_drew1 | refine below_set ?_ GE268.out | refine below_set ?_ GE271.out | refine below_set ?_ GE280.out) | exact HB.out)⟩⟩
               ·rw [if_neg c35] at H
                exact absurd H (by simp)
              ·rw [if_neg c34] at H
               exact absurd H (by simp)
             ·rw [if_neg c33] at H
              have c33b0 : decide (x37_3 < (y275.length : Int)) = false := decide_eq_false c33
              clear c33
              have H' := Aside0.mk H
              clear H
              go_wp2
              go_roundg k3
              case measure => have := HK1.out; have := HJ6.out; have := HK3.out; omega
              case rel => exact ⟨(wrap64 (x11_1 + 1)), (by first | rfl | (simp; done) | (simp [*]; done)), H', ⟨by have := HK1.out; have := HJ6.out; have := HK3.out; omega⟩, ⟨by (with_reducible repeat (first | refine blk_drewN ?_ _ | refine blk_drew ?_ | refine blk_alloc ?_ _)); exact BK268.out⟩, ⟨by repeat (first | (with_reducible first | exact HB.out | apply below_alloc | apply pw_below_drewN | apply below_drew1 | refine below_set ?_ GE268.out | refine below_set ?_ GE271.out) | exact HB.out)⟩⟩
          ·rw [if_neg c29] at H
           exact absurd H (by simp)
         ·rw [if_neg c28] at H
          exact absurd H (by simp)
     ·rw [if_neg c6] at H
      exact absurd H (by simp)
    ·rw [if_neg c5] at H
     exact absurd H (by simp)
   ·rw [if_neg c4] at H
    have c4b0 : decide (x11_1 < (l0_1.length : Int)) = false := decide_eq_false c4
    clear c4
    by_cases c56 : (l0_0.length : Int) ≤ 12
    ·rw [if_pos c56] at H
     have c56b0 : decide ((l0_0.length : Int) ≤ 12) = true := decide_eq_true c56
     have c56b1 : decide (l0_0.length ≤ 12) = true := decide_eq_true (by omega)
     clear c56
     by_cases c57 : (l0_1.length : Int) ≤ 6
     ·rw [if_pos c57] at H
      have c57b0 : decide ((l0_1.length : Int) ≤ 6) = true := decide_eq_true c57
      have c57b1 : decide (l0_1.length ≤ 6) = true := decide_eq_true (by omega)
      clear c57
      replace H := Option.bind_eq_some_iff.mp H
      obtain ⟨t269, A580, H⟩ := H
      replace H : (some (!t269)) = some r := H
      have A58 := Aside0.mk A580
      clear A580
      obtain rfl := Option.some.inj H
      have hcz59_0 : wr.cell? ⟨gb268, 0, none⟩ = some (.slice A0_0 l0_0.length c0_0) := (blk_cell BK268.out 0).trans rfl
      have hcz59_1 : wr.cell? ⟨gb268, 1, none⟩ = some (.slice A0_1 l0_1.length c0_1) := (blk_cell BK268.out 1).trans rfl
      have hfz59_0 := blk_frozen BK268.out 0
      have hfz59_1 := blk_frozen BK268.out 1
      go_wp2_with (first | (go_at_call 101; (with_reducible refine (slices_ContainsFunc_PrgClause.calls k1 _ _ l0_0 t269 _ ?side1 ?side2 A58.out).mono ?_); (case side1 => repeat (first | exact (Kd.C_below HR0_0.out HB.out) | (with_reducible refine Kd.C_alloc ?_ _) | (with_reducible refine Kd.C_drewN ?_ _) | (with_reducible refine Kd.C_drew ?_))); (case side2 => exact HC0_0.out); rintro e w60 ⟨rfl, hb⟩; have n0_ := Aside0.mk (blk_below (g := gb268) (o := .cells #[.slice A0_0 l0_0.length c0_0, .slice A0_1 l0_1.length c0_1] 74 (0, 0)) (by (with_reducible repeat (first | refine blk_drewN ?_ _ | refine blk_drew ?_ | refine blk_alloc ?_ _)); exact BK268.out) hb); have n1_ := Aside0.mk (below_step (by repeat (first | (with_reducible first | exact HB.out | apply below_alloc | apply pw_below_drewN | apply below_drew1 | refine below_set ?_ GE268.out) | exact HB.out)) hb); clear BK268; clear HB; have BK268 := n0_; have HB := n1_; clear n0_ n1_; (try clear hb); (try clear hb2); (try clear hk); (try clear hi)))
      go_ret
      exact ⟨by first | rfl | (simp [errW_none, errW_some] <;> rfl) | (simp [*, errW_none, errW_some] <;> rfl), by repeat (first | (with_reducible first | exact HB.out | apply below_alloc | apply pw_below_drewN | apply below_drew1 | refine below_set ?_ GE268.out) | exact HB.out)⟩
     ·rw [if_neg c57] at H
      have c57b0 : decide ((l0_1.length : Int) ≤ 6) = false := decide_eq_false c57
      have c57b1 : decide (l0_1.length ≤ 6) = false := decide_eq_false (by omega)
      clear c57
      obtain rfl := Option.some.inj H
      have hcz61_0 : wr.cell? ⟨gb268, 0, none⟩ = some (.slice A0_0 l0_0.length c0_0) := (blk_cell BK268.out 0).trans rfl
      have hcz61_1 : wr.cell? ⟨gb268, 1, none⟩ = some (.slice A0_1 l0_1.length c0_1) := (blk_cell BK268.out 1).trans rfl
      have hfz61_0 := blk_frozen BK268.out 0
      have hfz61_1 := blk_frozen BK268.out 1
      go_wp2
      go_ret
      exact ⟨by first | rfl | (simp [errW_none, errW_some] <;> rfl) | (simp [*, errW_none, errW_some] <;> rfl), by repeat (first | (with_reducible first | exact HB.out | apply below_alloc | apply pw_below_drewN | apply below_drew1 | refine below_set ?_ GE268.out) | exact HB.out)⟩
    ·rw [if_neg c56] at H
     have c56b0 : decide ((l0_0.length : Int) ≤ 12) = false := decide_eq_false c56
     have c56b1 : decide (l0_0.length ≤ 12) = false := decide_eq_false (by omega)
     clear c56
     obtain rfl := Option.some.inj H
     have hcz62_0 : wr.cell? ⟨gb268, 0, none⟩ = some (.slice A0_0 l0_0.length c0_0) := (blk_cell BK268.out 0).trans rfl
     have hcz62_1 : wr.cell? ⟨gb268, 1, none⟩ = some (.slice A0_1 l0_1.length c0_1) := (blk_cell BK268.out 1).trans rfl
     have hfz62_0 := blk_frozen BK268.out 0
     have hfz62_1 := blk_frozen BK268.out 1
     go_wp2
     go_ret
     exact ⟨by first | rfl | (simp [errW_none, errW_some] <;> rfl) | (simp [*, errW_none, errW_some] <;> rfl), by repeat (first | (with_reducible first | exact HB.out | apply below_alloc | apply pw_below_drewN | apply below_drew1 | refine below_set ?_ GE268.out) | exact HB.out)⟩

end Go.Proofs.YtlmeookaanjdiaaDoor.P
