/- Contracts of functions of the program: each as a Lean function, and that its call does what that says; printed by cprint.py (this session) over print.py of the kit. Conditions: the hypotheses of each theorem. -/
import Derived.Test.YtlaicnoikeieeaaDoorP0
import Derived.Test.YtlaicnoikeieeaaDoorP5
import Derived.Test.YtlaicnoikeieeaaDoorP6
import Derived.Test.YtlaicnoikeieeaaDoorP12
import Derived.Test.YtlaicnoikeieeaaDoorP13
import Derived.Test.YtlaicnoikeieeaaDoorP18
namespace Go.Proofs.YtlaicnoikeieeaaDoor.P
open Go.RowKit Go.Proofs.YtlaicnoikeieeaaDoorW.PrintWords Go.Proofs.YtlaicnoikeieeaaDoorW.PrintLast Go.Proofs.YtlaicnoikeieeaaDoorW.PrintMore
attribute [local go_sem] max2_int min2_int max_two min_two max_three min_three max_four min_four   -- for this text's walks alone
set_option linter.unusedVariables false
set_option linter.unusedSimpArgs false

/-! ### laws_FnSubVar: function 6 -/
mutual
def laws_FnSubVar.l0 : Nat → List (S46) → List Int → Int → Int → Option (Bool)
  | 0, _, _, _, _ => none
  | k + 1, x3, x6, x7, x8 => if x8 < (x6.length : Int) then (if 0 ≤ x8 then (laws_FnSubVar.l0 k x3 x6 (mx x7 (mn (wrap64 ((rd x6 x8) + 1)) 99999)) (wrap64 (x8 + 1))) else (none)) else (laws_FnSubVar.l1 k x3 x6 x7 0)
def laws_FnSubVar.l1 : Nat → List (S46) → List Int → Int → Int → Option (Bool)
  | 0, _, _, _, _ => none
  | k + 1, x3, x6, x7, x9 => if x9 < (x6.length : Int) then (if 0 ≤ x9 then (if (rd x6 x9) = x7 then ((laws_caOk.f).bind fun t298 => (some t298)) else (laws_FnSubVar.l1 k x3 x6 x7 (wrap64 (x9 + 1)))) else (none)) else ((some (([(⟨1, x7, (⟨#[]⟩ : ByteArray)⟩ : S46)] : List (S46)) : List (S46))).bind fun y299 => ((impl_SubUnify.f k (([] : List (S30))) y299 x3).bind fun bt305 => ((impl_SubUnify.f k (([] : List (S30))) y299 (([(⟨3, 1, (⟨#[102]⟩ : ByteArray)⟩ : S46), (⟨1, x7, (⟨#[]⟩ : ByteArray)⟩ : S46)] : List (S46)))).bind fun bt315 => ((impl_SubUnify.f k (([] : List (S30))) y299 y299).bind fun bt322 => (if (x3.length : Int) = 1 then (if 0 < (x3.length : Int) then (if ((rd_T46 x3 0).f0) = 1 then (if bt305.2 = 1 then (if (bt305.1.length : Int) = 1 then (if bt315.2 = 2 then (if bt322.2 = 1 then (laws_FnSubVar.j2 k ((bt322.1.length : Int) == 0)) else (laws_FnSubVar.j2 k false)) else (laws_FnSubVar.j2 k false)) else (laws_FnSubVar.j2 k false)) else (laws_FnSubVar.j2 k false)) else (if bt305.2 = 1 then (if (bt305.1.length : Int) = 1 then (if 0 < (bt305.1.length : Int) then (if ((rd_T30 bt305.1 0).f0) = x7 then ((laws_caTerm.f k ((rd_T30 bt305.1 0).f1) x3).bind fun t329 => (if t329 = true then (if bt315.2 = 2 then (if bt322.2 = 1 then (laws_FnSubVar.j3 k ((bt322.1.length : Int) == 0)) else (laws_FnSubVar.j3 k false)) else (laws_FnSubVar.j3 k false)) else (laws_FnSubVar.j3 k false))) else (laws_FnSubVar.j3 k false)) else (none)) else (laws_FnSubVar.j3 k false)) else (laws_FnSubVar.j3 k false))) else (none)) else (if bt305.2 = 1 then (if (bt305.1.length : Int) = 1 then (if 0 < (bt305.1.length : Int) then (if ((rd_T30 bt305.1 0).f0) = x7 then ((laws_caTerm.f k ((rd_T30 bt305.1 0).f1) x3).bind fun t332 => (if t332 = true then (if bt315.2 = 2 then (if bt322.2 = 1 then (laws_FnSubVar.j4 k ((bt322.1.length : Int) == 0)) else (laws_FnSubVar.j4 k false)) else (laws_FnSubVar.j4 k false)) else (laws_FnSubVar.j4 k false))) else (laws_FnSubVar.j4 k false)) else (none)) else (laws_FnSubVar.j4 k false)) else (laws_FnSubVar.j4 k false)))))))
def laws_FnSubVar.j2 : Nat → Bool → Option (Bool)
  | 0, _ => none
  | k + 1, x2 => some x2
def laws_FnSubVar.j3 : Nat → Bool → Option (Bool)
  | 0, _ => none
  | k + 1, x2 => some x2
def laws_FnSubVar.j4 : Nat → Bool → Option (Bool)
  | 0, _ => none
  | k + 1, x2 => some x2
end
def laws_FnSubVar.f (k : Nat) (l0 : List Int) : Option (Bool) := if (l0.length : Int) > 1048576 then (some true) else ((spec_DrawTrmOk.f k l0).bind fun t281 => ((spec_TrmOk.f k t281).bind fun t284 => (if t284 = true then ((impl_TrmFree.f k t281).bind fun t293 => (laws_FnSubVar.l0 k t281 t293 50 0)) else ((impl_SubUnify.f k (([] : List (S30))) t281 t281).bind fun bt288 => (if bt288.2 = 4 then ((laws_caOk.f).bind fun t292 => (some t292)) else (some false))))))
theorem laws_FnSubVar.mono_l : ∀ k, (∀ y0 y1 y2 y3, LeO (laws_FnSubVar.l0 k y0 y1 y2 y3) (laws_FnSubVar.l0 (k + 1) y0 y1 y2 y3)) ∧ (∀ y0 y1 y2 y3, LeO (laws_FnSubVar.l1 k y0 y1 y2 y3) (laws_FnSubVar.l1 (k + 1) y0 y1 y2 y3)) ∧ (∀ y0, LeO (laws_FnSubVar.j2 k y0) (laws_FnSubVar.j2 (k + 1) y0)) ∧ (∀ y0, LeO (laws_FnSubVar.j3 k y0) (laws_FnSubVar.j3 (k + 1) y0)) ∧ (∀ y0, LeO (laws_FnSubVar.j4 k y0) (laws_FnSubVar.j4 (k + 1) y0))
  | 0 => ⟨fun _ _ _ _ r h => by simp [laws_FnSubVar.l0] at h, fun _ _ _ _ r h => by simp [laws_FnSubVar.l1] at h, fun _ r h => by simp [laws_FnSubVar.j2] at h, fun _ r h => by simp [laws_FnSubVar.j3] at h, fun _ r h => by simp [laws_FnSubVar.j4] at h⟩
  | k + 1 => by
    obtain ⟨ih0, ih1, ih2, ih3, ih4⟩ := laws_FnSubVar.mono_l k
    refine ⟨?_, ?_, ?_, ?_, ?_⟩
    · intro y0 y1 y2 y3
      unfold laws_FnSubVar.l0
      repeat' first
      | (with_reducible exact ih0 _ _ _ _)
      | (with_reducible exact ih1 _ _ _ _)
      | (with_reducible exact ih2 _)
      | (with_reducible exact ih3 _)
      | (with_reducible exact ih4 _)
      | (with_reducible exact impl_SubUnify.mono _ _ _ _)
      | (with_reducible exact impl_TrmFree.mono _ _)
      | (with_reducible exact laws_caTerm.mono _ _ _)
      | (with_reducible exact spec_DrawTrmOk.mono _ _)
      | (with_reducible exact spec_TrmOk.mono _ _)
      | (with_reducible exact LeO.refl _)
      | (with_reducible exact LeO.none _)
      | (with_reducible refine LeO.ite ?_ ?_)
      | (with_reducible refine LeO.bind ?_ (fun _ => ?_))
      | exact ih0 _ _ _ _
      | exact ih1 _ _ _ _
      | exact ih2 _
      | exact ih3 _
      | exact ih4 _
      | exact impl_SubUnify.mono _ _ _ _
      | exact impl_TrmFree.mono _ _
      | exact laws_caTerm.mono _ _ _
      | exact spec_DrawTrmOk.mono _ _
      | exact spec_TrmOk.mono _ _
      | exact LeO.none _
      | refine LeO.ite ?_ ?_
      | refine LeO.bind ?_ (fun _ => ?_)
    · intro y0 y1 y2 y3
      unfold laws_FnSubVar.l1
      repeat' first
      | (with_reducible exact ih0 _ _ _ _)
      | (with_reducible exact ih1 _ _ _ _)
      | (with_reducible exact ih2 _)
      | (with_reducible exact ih3 _)
      | (with_reducible exact ih4 _)
      | (with_reducible exact impl_SubUnify.mono _ _ _ _)
      | (with_reducible exact impl_TrmFree.mono _ _)
      | (with_reducible exact laws_caTerm.mono _ _ _)
      | (with_reducible exact spec_DrawTrmOk.mono _ _)
      | (with_reducible exact spec_TrmOk.mono _ _)
      | (with_reducible exact LeO.refl _)
      | (with_reducible exact LeO.none _)
      | (with_reducible refine LeO.ite ?_ ?_)
      | (with_reducible refine LeO.bind ?_ (fun _ => ?_))
      | exact ih0 _ _ _ _
      | exact ih1 _ _ _ _
      | exact ih2 _
      | exact ih3 _
      | exact ih4 _
      | exact impl_SubUnify.mono _ _ _ _
      | exact impl_TrmFree.mono _ _
      | exact laws_caTerm.mono _ _ _
      | exact spec_DrawTrmOk.mono _ _
      | exact spec_TrmOk.mono _ _
      | exact LeO.none _
      | refine LeO.ite ?_ ?_
      | refine LeO.bind ?_ (fun _ => ?_)
    · intro y0
      unfold laws_FnSubVar.j2
      repeat' first
      | (with_reducible exact ih0 _ _ _ _)
      | (with_reducible exact ih1 _ _ _ _)
      | (with_reducible exact ih2 _)
      | (with_reducible exact ih3 _)
      | (with_reducible exact ih4 _)
      | (with_reducible exact impl_SubUnify.mono _ _ _ _)
      | (with_reducible exact impl_TrmFree.mono _ _)
      | (with_reducible exact laws_caTerm.mono _ _ _)
      | (with_reducible exact spec_DrawTrmOk.mono _ _)
      | (with_reducible exact spec_TrmOk.mono _ _)
      | (with_reducible exact LeO.refl _)
      | (with_reducible exact LeO.none _)
      | (with_reducible refine LeO.ite ?_ ?_)
      | (with_reducible refine LeO.bind ?_ (fun _ => ?_))
      | exact ih0 _ _ _ _
      | exact ih1 _ _ _ _
      | exact ih2 _
      | exact ih3 _
      | exact ih4 _
      | exact impl_SubUnify.mono _ _ _ _
      | exact impl_TrmFree.mono _ _
      | exact laws_caTerm.mono _ _ _
      | exact spec_DrawTrmOk.mono _ _
      | exact spec_TrmOk.mono _ _
      | exact LeO.none _
      | refine LeO.ite ?_ ?_
      | refine LeO.bind ?_ (fun _ => ?_)
    · intro y0
      unfold laws_FnSubVar.j3
      repeat' first
      | (with_reducible exact ih0 _ _ _ _)
      | (with_reducible exact ih1 _ _ _ _)
      | (with_reducible exact ih2 _)
      | (with_reducible exact ih3 _)
      | (with_reducible exact ih4 _)
      | (with_reducible exact impl_SubUnify.mono _ _ _ _)
      | (with_reducible exact impl_TrmFree.mono _ _)
      | (with_reducible exact laws_caTerm.mono _ _ _)
      | (with_reducible exact spec_DrawTrmOk.mono _ _)
      | (with_reducible exact spec_TrmOk.mono _ _)
      | (with_reducible exact LeO.refl _)
      | (with_reducible exact LeO.none _)
      | (with_reducible refine LeO.ite ?_ ?_)
      | (with_reducible refine LeO.bind ?_ (fun _ => ?_))
      | exact ih0 _ _ _ _
      | exact ih1 _ _ _ _
      | exact ih2 _
      | exact ih3 _
      | exact ih4 _
      | exact impl_SubUnify.mono _ _ _ _
      | exact impl_TrmFree.mono _ _
      | exact laws_caTerm.mono _ _ _
      | exact spec_DrawTrmOk.mono _ _
      | exact spec_TrmOk.mono _ _
      | exact LeO.none _
      | refine LeO.ite ?_ ?_
      | refine LeO.bind ?_ (fun _ => ?_)
    · intro y0
      unfold laws_FnSubVar.j4
      repeat' first
      | (with_reducible exact ih0 _ _ _ _)
      | (with_reducible exact ih1 _ _ _ _)
      | (with_reducible exact ih2 _)
      | (with_reducible exact ih3 _)
      | (with_reducible exact ih4 _)
      | (with_reducible exact impl_SubUnify.mono _ _ _ _)
      | (with_reducible exact impl_TrmFree.mono _ _)
      | (with_reducible exact laws_caTerm.mono _ _ _)
      | (with_reducible exact spec_DrawTrmOk.mono _ _)
      | (with_reducible exact spec_TrmOk.mono _ _)
      | (with_reducible exact LeO.refl _)
      | (with_reducible exact LeO.none _)
      | (with_reducible refine LeO.ite ?_ ?_)
      | (with_reducible refine LeO.bind ?_ (fun _ => ?_))
      | exact ih0 _ _ _ _
      | exact ih1 _ _ _ _
      | exact ih2 _
      | exact ih3 _
      | exact ih4 _
      | exact impl_SubUnify.mono _ _ _ _
      | exact impl_TrmFree.mono _ _
      | exact laws_caTerm.mono _ _ _
      | exact spec_DrawTrmOk.mono _ _
      | exact spec_TrmOk.mono _ _
      | exact LeO.none _
      | refine LeO.ite ?_ ?_
      | refine LeO.bind ?_ (fun _ => ?_)
theorem laws_FnSubVar.mono : ∀ a0 k, LeO (laws_FnSubVar.f k a0) (laws_FnSubVar.f (k + 1) a0) := by
  intro a0 k
  obtain ⟨ih0, ih1, ih2, ih3, ih4⟩ := laws_FnSubVar.mono_l k
  unfold laws_FnSubVar.f
  repeat' first
      | (with_reducible exact ih0 _ _ _ _)
      | (with_reducible exact ih1 _ _ _ _)
      | (with_reducible exact ih2 _)
      | (with_reducible exact ih3 _)
      | (with_reducible exact ih4 _)
      | (with_reducible exact impl_SubUnify.mono _ _ _ _)
      | (with_reducible exact impl_TrmFree.mono _ _)
      | (with_reducible exact laws_caTerm.mono _ _ _)
      | (with_reducible exact spec_DrawTrmOk.mono _ _)
      | (with_reducible exact spec_TrmOk.mono _ _)
      | (with_reducible exact LeO.refl _)
      | (with_reducible exact LeO.none _)
      | (with_reducible refine LeO.ite ?_ ?_)
      | (with_reducible refine LeO.bind ?_ (fun _ => ?_))
      | exact ih0 _ _ _ _
      | exact ih1 _ _ _ _
      | exact ih2 _
      | exact ih3 _
      | exact ih4 _
      | exact impl_SubUnify.mono _ _ _ _
      | exact impl_TrmFree.mono _ _
      | exact laws_caTerm.mono _ _ _
      | exact spec_DrawTrmOk.mono _ _
      | exact spec_TrmOk.mono _ _
      | exact LeO.none _
      | refine LeO.ite ?_ ?_
      | refine LeO.bind ?_ (fun _ => ?_)
set_option maxHeartbeats 8000000 in
set_option maxRecDepth 100000 in
theorem laws_FnSubVar.calls (k : Nat) (A0 : Option Addr) (c0 : Nat) (l0 : List Int) (r : Bool) (w : World) (hr0 : Kd.C (Kd.int .u8) w A0 l0.length l0) (hc0 : l0.length ≤ c0) (h : laws_FnSubVar.f k l0 = some r) :
    Calls Tryd.prog 6 #[.slice A0 l0.length c0] w fun e w' => e = .returned (.bool r) ∧ Below w.heap.size w w' := by
  have hu46 := Tryd.underlying46
  have HR0 := Aside0.mk hr0
  have HC0 := Aside0.mk hc0
  clear hr0 hc0
  have HB := Aside0.mk (Below.refl w.heap.size w)
  have H : (if (l0.length : Int) > 1048576 then (some true) else ((spec_DrawTrmOk.f k l0).bind fun t281 => ((spec_TrmOk.f k t281).bind fun t284 => (if t284 = true then ((impl_TrmFree.f k t281).bind fun t293 => (laws_FnSubVar.l0 k t281 t293 50 0)) else ((impl_SubUnify.f k (([] : List (S30))) t281 t281).bind fun bt288 => (if bt288.2 = 4 then ((laws_caOk.f).bind fun t292 => (some t292)) else (some false))))))) = some r := h
  clear h
  by_cases c2 : (l0.length : Int) > 1048576
  · rw [if_pos c2] at H
    have c2b0 : decide (1048576 < (l0.length : Int)) = true := decide_eq_true c2
    have c2b1 : decide (1048576 < l0.length) = true := decide_eq_true (by omega)
    clear c2
    obtain rfl := Option.some.inj H
    go_enter Tryd.func6, Tryd.ntmps6
    go_wp2
    go_ret
    exact ⟨by first | rfl | (simp [errW_none, errW_some] <;> rfl) | (simp [*, errW_none, errW_some] <;> rfl), by repeat (first | (with_reducible first | exact HB.out | apply below_alloc | apply pw_below_drewN | apply below_drew1) | exact HB.out)⟩
  · rw [if_neg c2] at H
    have c2b0 : decide (1048576 < (l0.length : Int)) = false := decide_eq_false c2
    have c2b1 : decide (1048576 < l0.length) = false := decide_eq_false (by omega)
    clear c2
    replace H := Option.bind_eq_some_iff.mp H
    obtain ⟨t281, A30, H⟩ := H
    replace H : ((spec_TrmOk.f k t281).bind fun t284 => (if t284 = true then ((impl_TrmFree.f k t281).bind fun t293 => (laws_FnSubVar.l0 k t281 t293 50 0)) else ((impl_SubUnify.f k (([] : List (S30))) t281 t281).bind fun bt288 => (if bt288.2 = 4 then ((laws_caOk.f).bind fun t292 => (some t292)) else (some false))))) = some r := H
    have A3 := Aside0.mk A30
    clear A30
    replace H := Option.bind_eq_some_iff.mp H
    obtain ⟨t284, A40, H⟩ := H
    replace H : (if t284 = true then ((impl_TrmFree.f k t281).bind fun t293 => (laws_FnSubVar.l0 k t281 t293 50 0)) else ((impl_SubUnify.f k (([] : List (S30))) t281 t281).bind fun bt288 => (if bt288.2 = 4 then ((laws_caOk.f).bind fun t292 => (some t292)) else (some false)))) = some r := H
    have A4 := Aside0.mk A40
    clear A40
    by_cases c5 : t284 = true
    · subst c5
      have H1 : ((impl_TrmFree.f k t281).bind fun t293 => (laws_FnSubVar.l0 k t281 t293 50 0)) = some r := by rw [if_pos rfl] at H; exact H
      clear H
      have H := H1
      clear H1
      replace H := Option.bind_eq_some_iff.mp H
      obtain ⟨t293, A60, H⟩ := H
      replace H : (laws_FnSubVar.l0 k t281 t293 50 0) = some r := H
      have A6 := Aside0.mk A60
      clear A60
      have H' := Aside0.mk H
      clear H
      go_enter Tryd.func6, Tryd.ntmps6
      go_wp2_with (first | ((with_reducible refine gate_callee (f := 29) rfl ?_); refine goesL_ (some 22) rfl rfl Tryd.func29 (by kernel_rfl) rfl #[.slice A0 l0.length c0] rfl (by (try simp only [List.map_toArray, List.map_cons, List.map_nil]); first | done | rfl | (simp only [List.length_drop, List.length_take]; rfl)) ?_; (with_reducible refine (spec_DrawTrmOk.calls k _ _ l0 t281 _ ?side1 ?side2 A3.out).mono ?_); (case side1 => repeat (first | exact HR0.out | (with_reducible refine Kd.C_alloc ?_ _) | (with_reducible refine Kd.C_drewN ?_ _) | (with_reducible refine Kd.C_drew ?_))); (case side2 => exact HC0.out); rintro e w7 ⟨v282, rfl, ho0, hb⟩; refine ⟨_, rfl, ?_⟩; have n0_ := Aside0.mk (Kd.R_lower ho0 (below_size (by repeat (first | (with_reducible first | exact HB.out | apply below_alloc | apply pw_below_drewN | apply below_drew1) | exact HB.out)))); have n1_ := Aside0.mk (below_step (by repeat (first | (with_reducible first | exact HB.out | apply below_alloc | apply pw_below_drewN | apply below_drew1) | exact HB.out)) hb); clear HB; have HO283 := n0_; have HB := n1_; clear n0_ n1_; (try clear hb); (try clear hb2); (try clear hk); (try clear hi); (try clear ho0); obtain ⟨Ao8, co8, eo8⟩ := Kd.R_slice HO283.out; subst eo8) | ((with_reducible refine gate_callee (f := 30) rfl ?_); refine goesL_ (some 24) rfl rfl Tryd.func30 (by kernel_rfl) rfl #[.slice Ao8 t281.length co8] rfl (by (try simp only [List.map_toArray, List.map_cons, List.map_nil]); first | done | rfl | (simp only [List.length_drop, List.length_take]; rfl)) ?_; (with_reducible refine (spec_TrmOk.calls k _ _ t281 true _ ?side1 ?side2 A4.out).mono ?_); (case side1 => repeat (first | exact (Kd.R_reads' HO283.out).2.2 | (with_reducible refine Kd.C_alloc ?_ _) | (with_reducible refine Kd.C_drewN ?_ _) | (with_reducible refine Kd.C_drew ?_))); (case side2 => exact (Kd.R_reads' HO283.out).2.1); rintro e w9 ⟨rfl, hb⟩; refine ⟨_, rfl, ?_⟩; have n0_ := Aside0.mk (Kd.R_below (by (with_reducible repeat (first | apply Kd.R_alloc | apply Kd.R_drewN | apply Kd.R_drew)); exact HO283.out) hb); have n1_ := Aside0.mk (below_step (by repeat (first | (with_reducible first | exact HB.out | apply below_alloc | apply pw_below_drewN | apply below_drew1) | exact HB.out)) hb); clear HO283; clear HB; have HO283 := n0_; have HB := n1_; clear n0_ n1_; (try clear hb); (try clear hb2); (try clear hk); (try clear hi)) | ((with_reducible refine gate_callee (f := 32) rfl ?_); refine goesL_ (some 39) rfl rfl Tryd.func32 (by kernel_rfl) rfl #[.slice Ao8 t281.length co8] rfl (by (try simp only [List.map_toArray, List.map_cons, List.map_nil]); first | done | rfl | (simp only [List.length_drop, List.length_take]; rfl)) ?_; (with_reducible refine (impl_TrmFree.calls k _ _ t281 t293 _ ?side1 ?side2 A6.out).mono ?_); (case side1 => repeat (first | exact (Kd.R_reads' HO283.out).2.2 | (with_reducible refine Kd.C_alloc ?_ _) | (with_reducible refine Kd.C_drewN ?_ _) | (with_reducible refine Kd.C_drew ?_))); (case side2 => exact (Kd.R_reads' HO283.out).2.1); rintro e w10 ⟨v294, rfl, ho0, hb⟩; refine ⟨_, rfl, ?_⟩; have n0_ := Aside0.mk (Kd.R_below (by (with_reducible repeat (first | apply Kd.R_alloc | apply Kd.R_drewN | apply Kd.R_drew)); exact HO283.out) hb); have n1_ := Aside0.mk (Kd.R_lower ho0 (below_size (by repeat (first | (with_reducible first | exact HB.out | apply below_alloc | apply pw_below_drewN | apply below_drew1) | exact HB.out)))); have n2_ := Aside0.mk (below_step (by repeat (first | (with_reducible first | exact HB.out | apply below_alloc | apply pw_below_drewN | apply below_drew1) | exact HB.out)) hb); clear HO283; clear HB; have HO283 := n0_; have HO295 := n1_; have HB := n2_; clear n0_ n1_ n2_; (try clear hb); (try clear hb2); (try clear hk); (try clear hi); (try clear ho0)))
      go_loopg [7, 8] k (fun kq v7 v8 w' => ∃ (x7_1 : Int) (x8_1 : Int), v7 = .int .i64 x7_1 ∧ v8 = .int .i64 x8_1 ∧ Aside0 (laws_FnSubVar.l0 kq t281 t293 x7_1 x8_1 = some r) ∧ Aside0 (kq ≤ k) ∧ Aside0 (Kd.R k46 46 w' w.heap.size (fun _ => True) (.slice Ao8 t281.length co8) t281) ∧ Aside0 (Kd.R (Kd.int .i64) 3 w' w.heap.size (fun _ => True) v294 t293) ∧ Aside0 (Below w.heap.size w w'))
      case atStart => exact ⟨(50), (0), (by first | rfl | (simp; done) | (simp [*]; done)), (by first | rfl | (simp; done) | (simp [*]; done)), H', ⟨Nat.le_refl _⟩, ⟨by (with_reducible repeat (first | apply Kd.R_alloc | apply Kd.R_drewN | apply Kd.R_drew)); exact HO283.out⟩, ⟨by (with_reducible repeat (first | apply Kd.R_alloc | apply Kd.R_drewN | apply Kd.R_drew)); exact HO295.out⟩, ⟨by repeat (first | (with_reducible first | exact HB.out | apply below_alloc | apply pw_below_drewN | apply below_drew1) | exact HB.out)⟩⟩
      case round =>
        clear H'
        try clear c2
        try clear c2b0
        try clear c2b1
        try clear p2
        try clear c3
        try clear c5
        try clear c6
        obtain ⟨x7_1, x8_1, rfl, rfl, HA, HK1, HO_3, HO_6, HB⟩ := hrel
        cases gk with
        | zero => exact absurd HA.out (by simp [laws_FnSubVar.l0])
        | succ k1 =>
          have H := HA.out
          clear HA
          simp only [laws_FnSubVar.l0] at H
          by_cases c11 : x8_1 < (t293.length : Int)
          · rw [if_pos c11] at H
            have c11b0 : decide (x8_1 < (t293.length : Int)) = true := decide_eq_true c11
            clear c11
            by_cases c12 : 0 ≤ x8_1
            · rw [if_pos c12] at H
              have c12b0 : decide (0 ≤ x8_1) = true := decide_eq_true c12
              clear c12
              obtain ⟨ji13, hji13⟩ : ∃ j_ : Int, (mn (wrap64 ((rd t293 x8_1) + 1)) 99999) = j_ := ⟨_, rfl⟩
              replace H : (laws_FnSubVar.l0 k1 t281 t293 (mx x7_1 (ji13)) (wrap64 (x8_1 + 1))) = some r := by first | (rw [hji13] at H; exact H) | (simp only [hji13] at H ⊢; exact H)
              have hji13_ : (if 99999 < (wrap64 ((rd t293 x8_1) + 1)) then 99999 else (wrap64 ((rd t293 x8_1) + 1))) = ji13 := hji13
              obtain ⟨ji14, hji14⟩ : ∃ j_ : Int, (mx x7_1 (ji13)) = j_ := ⟨_, rfl⟩
              replace H : (laws_FnSubVar.l0 k1 t281 t293 ji14 (wrap64 (x8_1 + 1))) = some r := by first | (rw [hji14] at H; exact H) | (simp only [hji14] at H ⊢; exact H)
              have hji14_ : (if x7_1 < (ji13) then (ji13) else x7_1) = ji14 := hji14
              have H' := Aside0.mk H
              clear H
              obtain ⟨Ao15, co15, eo15⟩ := Kd.R_slice HO_6.out
              subst eo15
              have p296 : 0 ≤ (x8_1 : Int) := of_decide_eq_true (by first | (with_reducible assumption) | assumption)
              have q296 : x8_1 < (t293.length : Int) := of_decide_eq_true (by first | (with_reducible assumption) | assumption)
              obtain ⟨ad296, e296, hx296_0⟩ := Kd.at_int (Kd.R_reads' HO_6.out).2.2 x8_1 p296 q296
              cases e296
              replace p296 := eq_true p296
              replace q296 := eq_true q296
              go_wp2
              go_roundg k1
              case measure => have := HK1.out; omega
              case rel => exact ⟨(ji14), (wrap64 (x8_1 + 1)), (by first | rfl | (simp; done) | (simp only [← hji14] <;> (first | rfl | simp)) | (simp [*]; done)), (by first | rfl | (simp; done) | (simp [*]; done)), H', ⟨by have := HK1.out; omega⟩, ⟨by (with_reducible repeat (first | apply Kd.R_alloc | apply Kd.R_drewN | apply Kd.R_drew)); exact HO_3.out⟩, ⟨by (with_reducible repeat (first | apply Kd.R_alloc | apply Kd.R_drewN | apply Kd.R_drew)); exact HO_6.out⟩, ⟨by repeat (first | (with_reducible first | exact HB.out | apply below_alloc | apply pw_below_drewN | apply below_drew1) | exact HB.out)⟩⟩
            · rw [if_neg c12] at H
              exact absurd H (by simp)
          · rw [if_neg c11] at H
            have c11b0 : decide (x8_1 < (t293.length : Int)) = false := decide_eq_false c11
            clear c11
            have H' := Aside0.mk H
            clear H
            obtain ⟨Ao16, co16, eo16⟩ := Kd.R_slice HO_6.out
            subst eo16
            go_wp2
            go_loopg [9] k1 (fun kq v9 w' => ∃ (x9_2 : Int), v9 = .int .i64 x9_2 ∧ Aside0 (laws_FnSubVar.l1 kq t281 t293 x7_1 x9_2 = some r) ∧ Aside0 (kq ≤ k1) ∧ Aside0 (Kd.R k46 46 w' w.heap.size (fun _ => True) (.slice Ao8 t281.length co8) t281) ∧ Aside0 (Kd.R (Kd.int .i64) 3 w' w.heap.size (fun _ => True) (.slice Ao16 t293.length co16) t293) ∧ Aside0 (Below w.heap.size w w'))
            case atStart => exact ⟨(0), (by first | rfl | (simp; done) | (simp [*]; done)), H', ⟨Nat.le_refl _⟩, ⟨by (with_reducible repeat (first | apply Kd.R_alloc | apply Kd.R_drewN | apply Kd.R_drew)); exact HO_3.out⟩, ⟨by (with_reducible repeat (first | apply Kd.R_alloc | apply Kd.R_drewN | apply Kd.R_drew)); exact HO_6.out⟩, ⟨by repeat (first | (with_reducible first | exact HB.out | apply below_alloc | apply pw_below_drewN | apply below_drew1) | exact HB.out)⟩⟩
            case round =>
              clear H'
              try clear c1
              try clear c2
              try clear c2b0
              try clear c2b1
              try clear p2
              try clear q2
              try clear hx2
              try clear c3
              try clear c5
              try clear c6
              try clear p6
              try clear c11
              try clear c11b0
              try clear c12
              try clear c12b0
              try clear hx296_0
              try clear p2
              try clear p296
              try clear q296
              obtain ⟨x9_2, rfl, HA, HK2, HO_3, HO_6, HB⟩ := hrel
              cases gk with
              | zero => exact absurd HA.out (by simp [laws_FnSubVar.l1])
              | succ k2 =>
                have H := HA.out
                clear HA
                simp only [laws_FnSubVar.l1] at H
                by_cases c17 : x9_2 < (t293.length : Int)
                · rw [if_pos c17] at H
                  have c17b0 : decide (x9_2 < (t293.length : Int)) = true := decide_eq_true c17
                  clear c17
                  by_cases c18 : 0 ≤ x9_2
                  · rw [if_pos c18] at H
                    have c18b0 : decide (0 ≤ x9_2) = true := decide_eq_true c18
                    clear c18
                    by_cases c19 : (rd t293 x9_2) = x7_1
                    · rw [if_pos c19] at H
                      have c19b0 : ((rd t293 x9_2) == x7_1) = true := beq_iff_eq.mpr c19
                      have c19b1 : ((rd t293 x9_2) != x7_1) = false := bne_eq_false_iff_eq.mpr c19
                      clear c19
                      replace H := Option.bind_eq_some_iff.mp H
                      obtain ⟨t298, A200, H⟩ := H
                      replace H : (some t298) = some r := H
                      have A20 := Aside0.mk A200
                      clear A200
                      obtain rfl := Option.some.inj H
                      have p297 : 0 ≤ (x9_2 : Int) := of_decide_eq_true (by first | (with_reducible assumption) | assumption)
                      have q297 : x9_2 < (t293.length : Int) := of_decide_eq_true (by first | (with_reducible assumption) | assumption)
                      obtain ⟨ad297, e297, hx297_0⟩ := Kd.at_int (Kd.R_reads' HO_6.out).2.2 x9_2 p297 q297
                      cases e297
                      replace p297 := eq_true p297
                      replace q297 := eq_true q297
                      go_wp2_with (first | ((with_reducible refine gate_callee (f := 22) rfl ?_); refine goesL_ (some 66) rfl rfl Tryd.func22 (by kernel_rfl) rfl #[] rfl (by (try simp only [List.map_toArray, List.map_cons, List.map_nil]); first | done | rfl | (simp only [List.length_drop, List.length_take]; rfl)) ?_; (with_reducible refine (laws_caOk.calls  t298 _ A20.out).mono ?_); rintro e w21 ⟨rfl, hb⟩; refine ⟨_, rfl, ?_⟩; have n0_ := Aside0.mk (Kd.R_below (by (with_reducible repeat (first | apply Kd.R_alloc | apply Kd.R_drewN | apply Kd.R_drew)); exact HO_3.out) hb); have n1_ := Aside0.mk (Kd.R_below (by (with_reducible repeat (first | apply Kd.R_alloc | apply Kd.R_drewN | apply Kd.R_drew)); exact HO_6.out) hb); have n2_ := Aside0.mk (below_step (by repeat (first | (with_reducible first | exact HB.out | apply below_alloc | apply pw_below_drewN | apply below_drew1) | exact HB.out)) hb); clear HO_3; clear HO_6; clear HB; have HO_3 := n0_; have HO_6 := n1_; have HB := n2_; clear n0_ n1_ n2_; (try clear hb); (try clear hb2); (try clear hk); (try clear hi)))
                      go_ret
                      exact ⟨by first | rfl | (simp [errW_none, errW_some] <;> rfl) | (simp [*, errW_none, errW_some] <;> rfl), by repeat (first | (with_reducible first | exact HB.out | apply below_alloc | apply pw_below_drewN | apply below_drew1) | exact HB.out)⟩
                    · rw [if_neg c19] at H
                      have c19b0 : ((rd t293 x9_2) == x7_1) = false := beq_eq_false_iff_ne.mpr c19
                      have c19b1 : ((rd t293 x9_2) != x7_1) = true := bne_iff_ne.mpr c19
                      have H' := Aside0.mk H
                      clear H
                      have p297 : 0 ≤ (x9_2 : Int) := of_decide_eq_true (by first | (with_reducible assumption) | assumption)
                      have q297 : x9_2 < (t293.length : Int) := of_decide_eq_true (by first | (with_reducible assumption) | assumption)
                      obtain ⟨ad297, e297, hx297_0⟩ := Kd.at_int (Kd.R_reads' HO_6.out).2.2 x9_2 p297 q297
                      cases e297
                      replace p297 := eq_true p297
                      replace q297 := eq_true q297
                      go_wp2
                      go_roundg k2
                      case measure => have := HK1.out; have := HK2.out; omega
                      case rel => exact ⟨(wrap64 (x9_2 + 1)), (by first | rfl | (simp; done) | (simp [*]; done)), H', ⟨by have := HK1.out; have := HK2.out; omega⟩, ⟨by (with_reducible repeat (first | apply Kd.R_alloc | apply Kd.R_drewN | apply Kd.R_drew)); exact HO_3.out⟩, ⟨by (with_reducible repeat (first | apply Kd.R_alloc | apply Kd.R_drewN | apply Kd.R_drew)); exact HO_6.out⟩, ⟨by repeat (first | (with_reducible first | exact HB.out | apply below_alloc | apply pw_below_drewN | apply below_drew1) | exact HB.out)⟩⟩
                  · rw [if_neg c18] at H
                    exact absurd H (by simp)
                · rw [if_neg c17] at H
                  have c17b0 : decide (x9_2 < (t293.length : Int)) = false := decide_eq_false c17
                  clear c17
                  obtain ⟨y299, hy299⟩ : ∃ y_ : List (S46), y_ = (([(⟨1, x7_1, (⟨#[]⟩ : ByteArray)⟩ : S46)] : List (S46))) := ⟨_, rfl⟩
                  replace H : ((impl_SubUnify.f k2 (([] : List (S30))) y299 t281).bind fun bt305 => ((impl_SubUnify.f k2 (([] : List (S30))) y299 (([(⟨3, 1, (⟨#[102]⟩ : ByteArray)⟩ : S46), (⟨1, x7_1, (⟨#[]⟩ : ByteArray)⟩ : S46)] : List (S46)))).bind fun bt315 => ((impl_SubUnify.f k2 (([] : List (S30))) y299 y299).bind fun bt322 => (if (t281.length : Int) = 1 then (if 0 < (t281.length : Int) then (if ((rd_T46 t281 0).f0) = 1 then (if bt305.2 = 1 then (if (bt305.1.length : Int) = 1 then (if bt315.2 = 2 then (if bt322.2 = 1 then (laws_FnSubVar.j2 k2 ((bt322.1.length : Int) == 0)) else (laws_FnSubVar.j2 k2 false)) else (laws_FnSubVar.j2 k2 false)) else (laws_FnSubVar.j2 k2 false)) else (laws_FnSubVar.j2 k2 false)) else (if bt305.2 = 1 then (if (bt305.1.length : Int) = 1 then (if 0 < (bt305.1.length : Int) then (if ((rd_T30 bt305.1 0).f0) = x7_1 then ((laws_caTerm.f k2 ((rd_T30 bt305.1 0).f1) t281).bind fun t329 => (if t329 = true then (if bt315.2 = 2 then (if bt322.2 = 1 then (laws_FnSubVar.j3 k2 ((bt322.1.length : Int) == 0)) else (laws_FnSubVar.j3 k2 false)) else (laws_FnSubVar.j3 k2 false)) else (laws_FnSubVar.j3 k2 false))) else (laws_FnSubVar.j3 k2 false)) else (none)) else (laws_FnSubVar.j3 k2 false)) else (laws_FnSubVar.j3 k2 false))) else (none)) else (if bt305.2 = 1 then (if (bt305.1.length : Int) = 1 then (if 0 < (bt305.1.length : Int) then (if ((rd_T30 bt305.1 0).f0) = x7_1 then ((laws_caTerm.f k2 ((rd_T30 bt305.1 0).f1) t281).bind fun t332 => (if t332 = true then (if bt315.2 = 2 then (if bt322.2 = 1 then (laws_FnSubVar.j4 k2 ((bt322.1.length : Int) == 0)) else (laws_FnSubVar.j4 k2 false)) else (laws_FnSubVar.j4 k2 false)) else (laws_FnSubVar.j4 k2 false))) else (laws_FnSubVar.j4 k2 false)) else (none)) else (laws_FnSubVar.j4 k2 false)) else (laws_FnSubVar.j4 k2 false)))))) = some r := by first | (rw [hy299]; with_reducible exact H) | (have H2_ := (Option.bind_some _ _).symm.trans H; rw [hy299]; with_reducible exact H2_) | (have H2_ := (Option.bind_some _ _).symm.trans H; with_reducible exact H2_) | with_reducible exact H | (rw [hy299]; exact H) | exact H
                  have Ny299 := Aside0.mk hy299
                  clear hy299
                  obtain ⟨y302, hy302⟩ : ∃ y_ : List (S30), y_ = (([] : List (S30))) := ⟨_, rfl⟩
                  replace H : ((impl_SubUnify.f k2 y302 y299 t281).bind fun bt305 => ((impl_SubUnify.f k2 (([] : List (S30))) y299 (([(⟨3, 1, (⟨#[102]⟩ : ByteArray)⟩ : S46), (⟨1, x7_1, (⟨#[]⟩ : ByteArray)⟩ : S46)] : List (S46)))).bind fun bt315 => ((impl_SubUnify.f k2 (([] : List (S30))) y299 y299).bind fun bt322 => (if (t281.length : Int) = 1 then (if 0 < (t281.length : Int) then (if ((rd_T46 t281 0).f0) = 1 then (if bt305.2 = 1 then (if (bt305.1.length : Int) = 1 then (if bt315.2 = 2 then (if bt322.2 = 1 then (laws_FnSubVar.j2 k2 ((bt322.1.length : Int) == 0)) else (laws_FnSubVar.j2 k2 false)) else (laws_FnSubVar.j2 k2 false)) else (laws_FnSubVar.j2 k2 false)) else (laws_FnSubVar.j2 k2 false)) else (if bt305.2 = 1 then (if (bt305.1.length : Int) = 1 then (if 0 < (bt305.1.length : Int) then (if ((rd_T30 bt305.1 0).f0) = x7_1 then ((laws_caTerm.f k2 ((rd_T30 bt305.1 0).f1) t281).bind fun t329 => (if t329 = true then (if bt315.2 = 2 then (if bt322.2 = 1 then (laws_FnSubVar.j3 k2 ((bt322.1.length : Int) == 0)) else (laws_FnSubVar.j3 k2 false)) else (laws_FnSubVar.j3 k2 false)) else (laws_FnSubVar.j3 k2 false))) else (laws_FnSubVar.j3 k2 false)) else (none)) else (laws_FnSubVar.j3 k2 false)) else (laws_FnSubVar.j3 k2 false))) else (none)) else (if bt305.2 = 1 then (if (bt305.1.length : Int) = 1 then (if 0 < (bt305.1.length : Int) then (if ((rd_T30 bt305.1 0).f0) = x7_1 then ((laws_caTerm.f k2 ((rd_T30 bt305.1 0).f1) t281).bind fun t332 => (if t332 = true then (if bt315.2 = 2 then (if bt322.2 = 1 then (laws_FnSubVar.j4 k2 ((bt322.1.length : Int) == 0)) else (laws_FnSubVar.j4 k2 false)) else (laws_FnSubVar.j4 k2 false)) else (laws_FnSubVar.j4 k2 false))) else (laws_FnSubVar.j4 k2 false)) else (none)) else (laws_FnSubVar.j4 k2 false)) else (laws_FnSubVar.j4 k2 false)))))) = some r := by first | (rw [hy302]; with_reducible exact H) | (have H2_ := (Option.bind_some _ _).symm.trans H; rw [hy302]; with_reducible exact H2_) | (have H2_ := (Option.bind_some _ _).symm.trans H; with_reducible exact H2_) | with_reducible exact H | (rw [hy302]; exact H) | exact H
                  have Ny302 := Aside0.mk hy302
                  clear hy302
                  replace H := Option.bind_eq_some_iff.mp H
                  obtain ⟨⟨t305, t306⟩, A220, H⟩ := H
                  replace H : ((impl_SubUnify.f k2 (([] : List (S30))) y299 (([(⟨3, 1, (⟨#[102]⟩ : ByteArray)⟩ : S46), (⟨1, x7_1, (⟨#[]⟩ : ByteArray)⟩ : S46)] : List (S46)))).bind fun bt315 => ((impl_SubUnify.f k2 (([] : List (S30))) y299 y299).bind fun bt322 => (if (t281.length : Int) = 1 then (if 0 < (t281.length : Int) then (if ((rd_T46 t281 0).f0) = 1 then (if t306 = 1 then (if (t305.length : Int) = 1 then (if bt315.2 = 2 then (if bt322.2 = 1 then (laws_FnSubVar.j2 k2 ((bt322.1.length : Int) == 0)) else (laws_FnSubVar.j2 k2 false)) else (laws_FnSubVar.j2 k2 false)) else (laws_FnSubVar.j2 k2 false)) else (laws_FnSubVar.j2 k2 false)) else (if t306 = 1 then (if (t305.length : Int) = 1 then (if 0 < (t305.length : Int) then (if ((rd_T30 t305 0).f0) = x7_1 then ((laws_caTerm.f k2 ((rd_T30 t305 0).f1) t281).bind fun t329 => (if t329 = true then (if bt315.2 = 2 then (if bt322.2 = 1 then (laws_FnSubVar.j3 k2 ((bt322.1.length : Int) == 0)) else (laws_FnSubVar.j3 k2 false)) else (laws_FnSubVar.j3 k2 false)) else (laws_FnSubVar.j3 k2 false))) else (laws_FnSubVar.j3 k2 false)) else (none)) else (laws_FnSubVar.j3 k2 false)) else (laws_FnSubVar.j3 k2 false))) else (none)) else (if t306 = 1 then (if (t305.length : Int) = 1 then (if 0 < (t305.length : Int) then (if ((rd_T30 t305 0).f0) = x7_1 then ((laws_caTerm.f k2 ((rd_T30 t305 0).f1) t281).bind fun t332 => (if t332 = true then (if bt315.2 = 2 then (if bt322.2 = 1 then (laws_FnSubVar.j4 k2 ((bt322.1.length : Int) == 0)) else (laws_FnSubVar.j4 k2 false)) else (laws_FnSubVar.j4 k2 false)) else (laws_FnSubVar.j4 k2 false))) else (laws_FnSubVar.j4 k2 false)) else (none)) else (laws_FnSubVar.j4 k2 false)) else (laws_FnSubVar.j4 k2 false))))) = some r := H
                  have A22 := Aside0.mk A220
                  clear A220
                  obtain ⟨y309, hy309⟩ : ∃ y_ : List (S46), y_ = (([(⟨3, 1, (⟨#[102]⟩ : ByteArray)⟩ : S46), (⟨1, x7_1, (⟨#[]⟩ : ByteArray)⟩ : S46)] : List (S46))) := ⟨_, rfl⟩
                  replace H : ((impl_SubUnify.f k2 (([] : List (S30))) y299 y309).bind fun bt315 => ((impl_SubUnify.f k2 (([] : List (S30))) y299 y299).bind fun bt322 => (if (t281.length : Int) = 1 then (if 0 < (t281.length : Int) then (if ((rd_T46 t281 0).f0) = 1 then (if t306 = 1 then (if (t305.length : Int) = 1 then (if bt315.2 = 2 then (if bt322.2 = 1 then (laws_FnSubVar.j2 k2 ((bt322.1.length : Int) == 0)) else (laws_FnSubVar.j2 k2 false)) else (laws_FnSubVar.j2 k2 false)) else (laws_FnSubVar.j2 k2 false)) else (laws_FnSubVar.j2 k2 false)) else (if t306 = 1 then (if (t305.length : Int) = 1 then (if 0 < (t305.length : Int) then (if ((rd_T30 t305 0).f0) = x7_1 then ((laws_caTerm.f k2 ((rd_T30 t305 0).f1) t281).bind fun t329 => (if t329 = true then (if bt315.2 = 2 then (if bt322.2 = 1 then (laws_FnSubVar.j3 k2 ((bt322.1.length : Int) == 0)) else (laws_FnSubVar.j3 k2 false)) else (laws_FnSubVar.j3 k2 false)) else (laws_FnSubVar.j3 k2 false))) else (laws_FnSubVar.j3 k2 false)) else (none)) else (laws_FnSubVar.j3 k2 false)) else (laws_FnSubVar.j3 k2 false))) else (none)) else (if t306 = 1 then (if (t305.length : Int) = 1 then (if 0 < (t305.length : Int) then (if ((rd_T30 t305 0).f0) = x7_1 then ((laws_caTerm.f k2 ((rd_T30 t305 0).f1) t281).bind fun t332 => (if t332 = true then (if bt315.2 = 2 then (if bt322.2 = 1 then (laws_FnSubVar.j4 k2 ((bt322.1.length : Int) == 0)) else (laws_FnSubVar.j4 k2 false)) else (laws_FnSubVar.j4 k2 false)) else (laws_FnSubVar.j4 k2 false))) else (laws_FnSubVar.j4 k2 false)) else (none)) else (laws_FnSubVar.j4 k2 false)) else (laws_FnSubVar.j4 k2 false))))) = some r := by first | (rw [hy309]; with_reducible exact H) | (have H2_ := (Option.bind_some _ _).symm.trans H; rw [hy309]; with_reducible exact H2_) | (have H2_ := (Option.bind_some _ _).symm.trans H; with_reducible exact H2_) | with_reducible exact H | (rw [hy309]; exact H) | exact H
                  have Ny309 := Aside0.mk hy309
                  clear hy309
                  obtain ⟨y312, hy312⟩ : ∃ y_ : List (S30), y_ = (([] : List (S30))) := ⟨_, rfl⟩
                  replace H : ((impl_SubUnify.f k2 y312 y299 y309).bind fun bt315 => ((impl_SubUnify.f k2 (([] : List (S30))) y299 y299).bind fun bt322 => (if (t281.length : Int) = 1 then (if 0 < (t281.length : Int) then (if ((rd_T46 t281 0).f0) = 1 then (if t306 = 1 then (if (t305.length : Int) = 1 then (if bt315.2 = 2 then (if bt322.2 = 1 then (laws_FnSubVar.j2 k2 ((bt322.1.length : Int) == 0)) else (laws_FnSubVar.j2 k2 false)) else (laws_FnSubVar.j2 k2 false)) else (laws_FnSubVar.j2 k2 false)) else (laws_FnSubVar.j2 k2 false)) else (if t306 = 1 then (if (t305.length : Int) = 1 then (if 0 < (t305.length : Int) then (if ((rd_T30 t305 0).f0) = x7_1 then ((laws_caTerm.f k2 ((rd_T30 t305 0).f1) t281).bind fun t329 => (if t329 = true then (if bt315.2 = 2 then (if bt322.2 = 1 then (laws_FnSubVar.j3 k2 ((bt322.1.length : Int) == 0)) else (laws_FnSubVar.j3 k2 false)) else (laws_FnSubVar.j3 k2 false)) else (laws_FnSubVar.j3 k2 false))) else (laws_FnSubVar.j3 k2 false)) else (none)) else (laws_FnSubVar.j3 k2 false)) else (laws_FnSubVar.j3 k2 false))) else (none)) else (if t306 = 1 then (if (t305.length : Int) = 1 then (if 0 < (t305.length : Int) then (if ((rd_T30 t305 0).f0) = x7_1 then ((laws_caTerm.f k2 ((rd_T30 t305 0).f1) t281).bind fun t332 => (if t332 = true then (if bt315.2 = 2 then (if bt322.2 = 1 then (laws_FnSubVar.j4 k2 ((bt322.1.length : Int) == 0)) else (laws_FnSubVar.j4 k2 false)) else (laws_FnSubVar.j4 k2 false)) else (laws_FnSubVar.j4 k2 false))) else (laws_FnSubVar.j4 k2 false)) else (none)) else (laws_FnSubVar.j4 k2 false)) else (laws_FnSubVar.j4 k2 false))))) = some r := by first | (rw [hy312]; with_reducible exact H) | (have H2_ := (Option.bind_some _ _).symm.trans H; rw [hy312]; with_reducible exact H2_) | (have H2_ := (Option.bind_some _ _).symm.trans H; with_reducible exact H2_) | with_reducible exact H | (rw [hy312]; exact H) | exact H
                  have Ny312 := Aside0.mk hy312
                  clear hy312
                  replace H := Option.bind_eq_some_iff.mp H
                  obtain ⟨⟨t315, t316⟩, A230, H⟩ := H
                  replace H : ((impl_SubUnify.f k2 (([] : List (S30))) y299 y299).bind fun bt322 => (if (t281.length : Int) = 1 then (if 0 < (t281.length : Int) then (if ((rd_T46 t281 0).f0) = 1 then (if t306 = 1 then (if (t305.length : Int) = 1 then (if t316 = 2 then (if bt322.2 = 1 then (laws_FnSubVar.j2 k2 ((bt322.1.length : Int) == 0)) else (laws_FnSubVar.j2 k2 false)) else (laws_FnSubVar.j2 k2 false)) else (laws_FnSubVar.j2 k2 false)) else (laws_FnSubVar.j2 k2 false)) else (if t306 = 1 then (if (t305.length : Int) = 1 then (if 0 < (t305.length : Int) then (if ((rd_T30 t305 0).f0) = x7_1 then ((laws_caTerm.f k2 ((rd_T30 t305 0).f1) t281).bind fun t329 => (if t329 = true then (if t316 = 2 then (if bt322.2 = 1 then (laws_FnSubVar.j3 k2 ((bt322.1.length : Int) == 0)) else (laws_FnSubVar.j3 k2 false)) else (laws_FnSubVar.j3 k2 false)) else (laws_FnSubVar.j3 k2 false))) else (laws_FnSubVar.j3 k2 false)) else (none)) else (laws_FnSubVar.j3 k2 false)) else (laws_FnSubVar.j3 k2 false))) else (none)) else (if t306 = 1 then (if (t305.length : Int) = 1 then (if 0 < (t305.length : Int) then (if ((rd_T30 t305 0).f0) = x7_1 then ((laws_caTerm.f k2 ((rd_T30 t305 0).f1) t281).bind fun t332 => (if t332 = true then (if t316 = 2 then (if bt322.2 = 1 then (laws_FnSubVar.j4 k2 ((bt322.1.length : Int) == 0)) else (laws_FnSubVar.j4 k2 false)) else (laws_FnSubVar.j4 k2 false)) else (laws_FnSubVar.j4 k2 false))) else (laws_FnSubVar.j4 k2 false)) else (none)) else (laws_FnSubVar.j4 k2 false)) else (laws_FnSubVar.j4 k2 false)))) = some r := H
                  have A23 := Aside0.mk A230
                  clear A230
                  obtain ⟨y319, hy319⟩ : ∃ y_ : List (S30), y_ = (([] : List (S30))) := ⟨_, rfl⟩
                  replace H : ((impl_SubUnify.f k2 y319 y299 y299).bind fun bt322 => (if (t281.length : Int) = 1 then (if 0 < (t281.length : Int) then (if ((rd_T46 t281 0).f0) = 1 then (if t306 = 1 then (if (t305.length : Int) = 1 then (if t316 = 2 then (if bt322.2 = 1 then (laws_FnSubVar.j2 k2 ((bt322.1.length : Int) == 0)) else (laws_FnSubVar.j2 k2 false)) else (laws_FnSubVar.j2 k2 false)) else (laws_FnSubVar.j2 k2 false)) else (laws_FnSubVar.j2 k2 false)) else (if t306 = 1 then (if (t305.length : Int) = 1 then (if 0 < (t305.length : Int) then (if ((rd_T30 t305 0).f0) = x7_1 then ((laws_caTerm.f k2 ((rd_T30 t305 0).f1) t281).bind fun t329 => (if t329 = true then (if t316 = 2 then (if bt322.2 = 1 then (laws_FnSubVar.j3 k2 ((bt322.1.length : Int) == 0)) else (laws_FnSubVar.j3 k2 false)) else (laws_FnSubVar.j3 k2 false)) else (laws_FnSubVar.j3 k2 false))) else (laws_FnSubVar.j3 k2 false)) else (none)) else (laws_FnSubVar.j3 k2 false)) else (laws_FnSubVar.j3 k2 false))) else (none)) else (if t306 = 1 then (if (t305.length : Int) = 1 then (if 0 < (t305.length : Int) then (if ((rd_T30 t305 0).f0) = x7_1 then ((laws_caTerm.f k2 ((rd_T30 t305 0).f1) t281).bind fun t332 => (if t332 = true then (if t316 = 2 then (if bt322.2 = 1 then (laws_FnSubVar.j4 k2 ((bt322.1.length : Int) == 0)) else (laws_FnSubVar.j4 k2 false)) else (laws_FnSubVar.j4 k2 false)) else (laws_FnSubVar.j4 k2 false))) else (laws_FnSubVar.j4 k2 false)) else (none)) else (laws_FnSubVar.j4 k2 false)) else (laws_FnSubVar.j4 k2 false)))) = some r := by first | (rw [hy319]; with_reducible exact H) | (have H2_ := (Option.bind_some _ _).symm.trans H; rw [hy319]; with_reducible exact H2_) | (have H2_ := (Option.bind_some _ _).symm.trans H; with_reducible exact H2_) | with_reducible exact H | (rw [hy319]; exact H) | exact H
                  have Ny319 := Aside0.mk hy319
                  clear hy319
                  replace H := Option.bind_eq_some_iff.mp H
                  obtain ⟨⟨t322, t323⟩, A240, H⟩ := H
                  replace H : (if (t281.length : Int) = 1 then (if 0 < (t281.length : Int) then (if ((rd_T46 t281 0).f0) = 1 then (if t306 = 1 then (if (t305.length : Int) = 1 then (if t316 = 2 then (if t323 = 1 then (laws_FnSubVar.j2 k2 ((t322.length : Int) == 0)) else (laws_FnSubVar.j2 k2 false)) else (laws_FnSubVar.j2 k2 false)) else (laws_FnSubVar.j2 k2 false)) else (laws_FnSubVar.j2 k2 false)) else (if t306 = 1 then (if (t305.length : Int) = 1 then (if 0 < (t305.length : Int) then (if ((rd_T30 t305 0).f0) = x7_1 then ((laws_caTerm.f k2 ((rd_T30 t305 0).f1) t281).bind fun t329 => (if t329 = true then (if t316 = 2 then (if t323 = 1 then (laws_FnSubVar.j3 k2 ((t322.length : Int) == 0)) else (laws_FnSubVar.j3 k2 false)) else (laws_FnSubVar.j3 k2 false)) else (laws_FnSubVar.j3 k2 false))) else (laws_FnSubVar.j3 k2 false)) else (none)) else (laws_FnSubVar.j3 k2 false)) else (laws_FnSubVar.j3 k2 false))) else (none)) else (if t306 = 1 then (if (t305.length : Int) = 1 then (if 0 < (t305.length : Int) then (if ((rd_T30 t305 0).f0) = x7_1 then ((laws_caTerm.f k2 ((rd_T30 t305 0).f1) t281).bind fun t332 => (if t332 = true then (if t316 = 2 then (if t323 = 1 then (laws_FnSubVar.j4 k2 ((t322.length : Int) == 0)) else (laws_FnSubVar.j4 k2 false)) else (laws_FnSubVar.j4 k2 false)) else (laws_FnSubVar.j4 k2 false))) else (laws_FnSubVar.j4 k2 false)) else (none)) else (laws_FnSubVar.j4 k2 false)) else (laws_FnSubVar.j4 k2 false))) = some r := H
                  have A24 := Aside0.mk A240
                  clear A240
                  by_cases c25 : (t281.length : Int) = 1
                  · rw [if_pos c25] at H
                    have c25b0 : ((t281.length : Int) == 1) = true := beq_iff_eq.mpr c25
                    have c25b1 : ((t281.length : Int) != 1) = false := bne_eq_false_iff_eq.mpr c25
                    clear c25
                    by_cases c26 : 0 < (t281.length : Int)
                    · rw [if_pos c26] at H
                      have c26b0 : decide (0 < (t281.length : Int)) = true := decide_eq_true c26
                      have c26b1 : decide (0 < t281.length) = true := decide_eq_true (by omega)
                      clear c26
                      by_cases c27 : ((rd_T46 t281 0).f0) = 1
                      · rw [if_pos c27] at H
                        have c27b0 : (((rd_T46 t281 0).f0) == 1) = true := beq_iff_eq.mpr c27
                        have c27b1 : (((rd_T46 t281 0).f0) != 1) = false := bne_eq_false_iff_eq.mpr c27
                        clear c27
                        have HC28 := Aside0.mk H
                        clear H
                        go_upto_region 24 with (first | ((with_reducible refine gate_dst (N := 69) rfl ?_); (try (refine gate_guard (by rfl) ?_; dsimp only)); refine Kd.R_lit k46 _ 46 ?hg (N := 69) ?hd (xs := ([(⟨1, x7_1, (⟨#[]⟩ : ByteArray)⟩ : S46)] : List (S46))) (inner := [.int .i64 1, .int .i64 x7_1, .string (⟨#[]⟩ : ByteArray)]) (ok := fun _ => True) (okp := fun _ => True) ?hr ?hp (fun _ hk => hk) trivial (Below.refl _ _) (Nat.le_refl _) (by simp) ?_; (case hd => rfl); (case hg => rfl); (case hr => first | (go_simp; done) | (go_simp; rfl)); (case hp => exact (Reps.c3 (show Kd.M k46 _ _ _ (⟨1, x7_1, (⟨#[]⟩ : ByteArray)⟩ : S46) [.int .i64 1, .int .i64 x7_1, .string (⟨#[]⟩ : ByteArray)] from (k46_mkM _ _ _ (⟨1, x7_1, (⟨#[]⟩ : ByteArray)⟩ : S46) )) (Reps.none _ _))); intro v300 w29 ho30 hb hg_ hnew_; clear hg_ hnew_; (first | rw [← Ny299.out] at ho30 | (simp only [Int.reduceToNat] at ho30; rw [← Ny299.out] at ho30)); have n0_ := Aside0.mk (Kd.R_elder' (by (with_reducible repeat (first | apply Kd.R_alloc | apply Kd.R_drewN | apply Kd.R_drew)); exact HO_3.out) (Kd.R_base ho30) hb); have n1_ := Aside0.mk (Kd.R_below (by (with_reducible repeat (first | apply Kd.R_alloc | apply Kd.R_drewN | apply Kd.R_drew)); exact HO_6.out) hb); have n2_ := Aside0.mk (Kd.R_lower (Kd.R_new' ho30 (Kd.R_lt (by (with_reducible repeat (first | apply Kd.R_alloc | apply Kd.R_drewN | apply Kd.R_drew)); exact HO_3.out))) (below_size (by repeat (first | (with_reducible first | exact HB.out | apply below_alloc | apply pw_below_drewN | apply below_drew1) | exact HB.out)))); have n3_ := Aside0.mk (below_step (by repeat (first | (with_reducible first | exact HB.out | apply below_alloc | apply pw_below_drewN | apply below_drew1) | exact HB.out)) hb); clear HO_3; clear HO_6; clear HB; have HO_3 := n0_; have HO_6 := n1_; have HO301 := n2_; have HB := n3_; clear n0_ n1_ n2_ n3_; clear hb ho30) | ((with_reducible refine gate_dst (N := 71) rfl ?_); (try (refine gate_guard (by rfl) ?_; dsimp only)); refine Kd.S_lit k30 _ 30 ?hg (N := 71) ?hd (xs := ([] : List (S30))) (inner := []) (ok := fun _ => True) (okp := fun _ => True) ?hr ?hp (fun _ hk => hk) trivial (Below.refl _ _) (Nat.le_refl _) (by simp) ?_; (case hd => rfl); (case hg => rfl); (case hr => first | (go_simp; done) | (go_simp; rfl)); (case hp => exact (Reps.none _ _)); intro v303 w31 ho32 hb hg_ hnew_; clear hg_ hnew_; (first | rw [← Ny302.out] at ho32 | (simp only [Int.reduceToNat] at ho32; rw [← Ny302.out] at ho32)); have n0_ := Aside0.mk (Kd.R_below (by (with_reducible repeat (first | apply Kd.R_alloc | apply Kd.R_drewN | apply Kd.R_drew)); exact HO_3.out) hb); have n1_ := Aside0.mk (Kd.R_below (by (with_reducible repeat (first | apply Kd.R_alloc | apply Kd.R_drewN | apply Kd.R_drew)); exact HO_6.out) hb); have n2_ := Aside0.mk (Kd.R_below (by (with_reducible repeat (first | apply Kd.R_alloc | apply Kd.R_drewN | apply Kd.R_drew)); exact HO301.out) hb); have n3_ := Aside0.mk (Kd.S_lower (Kd.S_new' (Kd.S_new' ho32 (Kd.R_lt (by (with_reducible repeat (first | apply Kd.R_alloc | apply Kd.R_drewN | apply Kd.R_drew)); exact HO_3.out))) (Kd.R_lt (by (with_reducible repeat (first | apply Kd.R_alloc | apply Kd.R_drewN | apply Kd.R_drew)); exact HO301.out))) (below_size (by repeat (first | (with_reducible first | exact HB.out | apply below_alloc | apply pw_below_drewN | apply below_drew1) | exact HB.out)))); have n4_ := Aside0.mk (below_step (by repeat (first | (with_reducible first | exact HB.out | apply below_alloc | apply pw_below_drewN | apply below_drew1) | exact HB.out)) hb); clear HO_3; clear HO_6; clear HO301; clear HB; have HO_3 := n0_; have HO_6 := n1_; have HO301 := n2_; have HO304 := n3_; have HB := n4_; clear n0_ n1_ n2_ n3_ n4_; clear hb ho32; obtain ⟨Ao33, co33, eo33⟩ := Kd.S_slice HO304.out; subst eo33; obtain ⟨Ao34, co34, eo34⟩ := Kd.R_slice HO301.out; subst eo34) | ((with_reducible refine gate_callee (f := 31) rfl ?_); refine goesL_ (some 74) rfl rfl Tryd.func31 (by kernel_rfl) rfl #[.slice Ao33 y302.length co33, .slice Ao34 y299.length co34, .slice Ao8 t281.length co8] rfl (by (try simp only [List.map_toArray, List.map_cons, List.map_nil]); first | done | rfl | (simp only [List.length_drop, List.length_take]; rfl)) ?_; (with_reducible refine (impl_SubUnify.calls k2 _ _ y302 _ _ y299 _ _ t281 t305 t306 _ ?side1 ?side2 ?side3 ?side4 ?side5 ?side6 A22.out).mono ?_); (case side1 => repeat (first | exact (Kd.S_reads' HO304.out).2.2 | (with_reducible refine Kd.C_alloc ?_ _) | (with_reducible refine Kd.C_drewN ?_ _) | (with_reducible refine Kd.C_drew ?_))); (case side2 => exact (Kd.S_reads' HO304.out).2.1); (case side3 => repeat (first | exact (Kd.R_reads' HO301.out).2.2 | (with_reducible refine Kd.C_alloc ?_ _) | (with_reducible refine Kd.C_drewN ?_ _) | (with_reducible refine Kd.C_drew ?_))); (case side4 => exact (Kd.R_reads' HO301.out).2.1); (case side5 => repeat (first | exact (Kd.R_reads' HO_3.out).2.2 | (with_reducible refine Kd.C_alloc ?_ _) | (with_reducible refine Kd.C_drewN ?_ _) | (with_reducible refine Kd.C_drew ?_))); (case side6 => exact (Kd.R_reads' HO_3.out).2.1); rintro e w35 ⟨v307, rfl, ho0, hb⟩; refine ⟨_, rfl, ?_⟩; have n0_ := Aside0.mk (Kd.R_below (by (with_reducible repeat (first | apply Kd.R_alloc | apply Kd.R_drewN | apply Kd.R_drew)); exact HO_3.out) hb); have n1_ := Aside0.mk (Kd.R_below (by (with_reducible repeat (first | apply Kd.R_alloc | apply Kd.R_drewN | apply Kd.R_drew)); exact HO_6.out) hb); have n2_ := Aside0.mk (Kd.R_below (by (with_reducible repeat (first | apply Kd.R_alloc | apply Kd.R_drewN | apply Kd.R_drew)); exact HO301.out) hb); have n3_ := Aside0.mk (Kd.S_elder' (by (with_reducible repeat (first | apply Kd.S_alloc | apply Kd.S_drewN | apply Kd.S_drew)); exact HO304.out) (Kd.S_base ho0) hb); have n4_ := Aside0.mk (Kd.S_lower (Kd.S_new' (Kd.S_new' (Kd.S_new' ho0 (Kd.R_lt (by (with_reducible repeat (first | apply Kd.R_alloc | apply Kd.R_drewN | apply Kd.R_drew)); exact HO_3.out))) (Kd.R_lt (by (with_reducible repeat (first | apply Kd.R_alloc | apply Kd.R_drewN | apply Kd.R_drew)); exact HO301.out))) (Kd.S_lt (by (with_reducible repeat (first | apply Kd.S_alloc | apply Kd.S_drewN | apply Kd.S_drew)); exact HO304.out))) (below_size (by repeat (first | (with_reducible first | exact HB.out | apply below_alloc | apply pw_below_drewN | apply below_drew1) | exact HB.out)))); have n5_ := Aside0.mk (below_step (by repeat (first | (with_reducible first | exact HB.out | apply below_alloc | apply pw_below_drewN | apply below_drew1) | exact HB.out)) hb); clear HO_3; clear HO_6; clear HO301; clear HO304; clear HB; have HO_3 := n0_; have HO_6 := n1_; have HO301 := n2_; have HO304 := n3_; have HO308 := n4_; have HB := n5_; clear n0_ n1_ n2_ n3_ n4_ n5_; (try clear hb); (try clear hb2); (try clear hk); (try clear hi); (try clear ho0)) | ((with_reducible refine gate_dst (N := 80) rfl ?_); (try (refine gate_guard (by rfl) ?_; dsimp only)); refine Kd.R_lit k46 _ 46 ?hg (N := 80) ?hd (xs := ([(⟨3, 1, (⟨#[102]⟩ : ByteArray)⟩ : S46), (⟨1, x7_1, (⟨#[]⟩ : ByteArray)⟩ : S46)] : List (S46))) (inner := [.int .i64 3, .int .i64 1, .string (⟨#[102]⟩ : ByteArray), .int .i64 1, .int .i64 x7_1, .string (⟨#[]⟩ : ByteArray)]) (ok := fun _ => True) (okp := fun _ => True) ?hr ?hp (fun _ hk => hk) trivial (Below.refl _ _) (Nat.le_refl _) (by simp) ?_; (case hd => rfl); (case hg => rfl); (case hr => first | (go_simp; done) | (go_simp; rfl)); (case hp => exact (Reps.c3 (show Kd.M k46 _ _ _ (⟨3, 1, (⟨#[102]⟩ : ByteArray)⟩ : S46) [.int .i64 3, .int .i64 1, .string (⟨#[102]⟩ : ByteArray)] from (k46_mkM _ _ _ (⟨3, 1, (⟨#[102]⟩ : ByteArray)⟩ : S46) )) (Reps.c3 (show Kd.M k46 _ _ _ (⟨1, x7_1, (⟨#[]⟩ : ByteArray)⟩ : S46) [.int .i64 1, .int .i64 x7_1, .string (⟨#[]⟩ : ByteArray)] from (k46_mkM _ _ _ (⟨1, x7_1, (⟨#[]⟩ : ByteArray)⟩ : S46) )) (Reps.none _ _)))); intro v310 w36 ho37 hb hg_ hnew_; clear hg_ hnew_; (first | rw [← Ny309.out] at ho37 | (simp only [Int.reduceToNat] at ho37; rw [← Ny309.out] at ho37)); have n0_ := Aside0.mk (Kd.R_elder' (by (with_reducible repeat (first | apply Kd.R_alloc | apply Kd.R_drewN | apply Kd.R_drew)); exact HO_3.out) (Kd.R_base ho37) hb); have n1_ := Aside0.mk (Kd.R_below (by (with_reducible repeat (first | apply Kd.R_alloc | apply Kd.R_drewN | apply Kd.R_drew)); exact HO_6.out) hb); have n2_ := Aside0.mk (Kd.R_elder' (by (with_reducible repeat (first | apply Kd.R_alloc | apply Kd.R_drewN | apply Kd.R_drew)); exact HO301.out) (Kd.R_base ho37) hb); have n3_ := Aside0.mk (Kd.S_elder' (by (with_reducible repeat (first | apply Kd.S_alloc | apply Kd.S_drewN | apply Kd.S_drew)); exact HO304.out) (Kd.R_base ho37) hb); have n4_ := Aside0.mk (Kd.S_elder' (by (with_reducible repeat (first | apply Kd.S_alloc | apply Kd.S_drewN | apply Kd.S_drew)); exact HO308.out) (Kd.R_base ho37) hb); have n5_ := Aside0.mk (Kd.R_lower (Kd.R_new' (Kd.R_new' ho37 (Kd.R_lt (by (with_reducible repeat (first | apply Kd.R_alloc | apply Kd.R_drewN | apply Kd.R_drew)); exact HO_3.out))) (Kd.R_lt (by (with_reducible repeat (first | apply Kd.R_alloc | apply Kd.R_drewN | apply Kd.R_drew)); exact HO301.out))) (below_size (by repeat (first | (with_reducible first | exact HB.out | apply below_alloc | apply pw_below_drewN | apply below_drew1) | exact HB.out)))); have n6_ := Aside0.mk (below_step (by repeat (first | (with_reducible first | exact HB.out | apply below_alloc | apply pw_below_drewN | apply below_drew1) | exact HB.out)) hb); clear HO_3; clear HO_6; clear HO301; clear HO304; clear HO308; clear HB; have HO_3 := n0_; have HO_6 := n1_; have HO301 := n2_; have HO304 := n3_; have HO308 := n4_; have HO311 := n5_; have HB := n6_; clear n0_ n1_ n2_ n3_ n4_ n5_ n6_; clear hb ho37) | ((with_reducible refine gate_dst (N := 82) rfl ?_); (try (refine gate_guard (by rfl) ?_; dsimp only)); refine Kd.S_lit k30 _ 30 ?hg (N := 82) ?hd (xs := ([] : List (S30))) (inner := []) (ok := fun _ => True) (okp := fun _ => True) ?hr ?hp (fun _ hk => hk) trivial (Below.refl _ _) (Nat.le_refl _) (by simp) ?_; (case hd => rfl); (case hg => rfl); (case hr => first | (go_simp; done) | (go_simp; rfl)); (case hp => exact (Reps.none _ _)); intro v313 w38 ho39 hb hg_ hnew_; clear hg_ hnew_; (first | rw [← Ny312.out] at ho39 | (simp only [Int.reduceToNat] at ho39; rw [← Ny312.out] at ho39)); have n0_ := Aside0.mk (Kd.R_below (by (with_reducible repeat (first | apply Kd.R_alloc | apply Kd.R_drewN | apply Kd.R_drew)); exact HO_3.out) hb); have n1_ := Aside0.mk (Kd.R_below (by (with_reducible repeat (first | apply Kd.R_alloc | apply Kd.R_drewN | apply Kd.R_drew)); exact HO_6.out) hb); have n2_ := Aside0.mk (Kd.R_below (by (with_reducible repeat (first | apply Kd.R_alloc | apply Kd.R_drewN | apply Kd.R_drew)); exact HO301.out) hb); have n3_ := Aside0.mk (Kd.S_elder' (by (with_reducible repeat (first | apply Kd.S_alloc | apply Kd.S_drewN | apply Kd.S_drew)); exact HO304.out) (Kd.S_base ho39) hb); have n4_ := Aside0.mk (Kd.S_elder' (by (with_reducible repeat (first | apply Kd.S_alloc | apply Kd.S_drewN | apply Kd.S_drew)); exact HO308.out) (Kd.S_base ho39) hb); have n5_ := Aside0.mk (Kd.R_below (by (with_reducible repeat (first | apply Kd.R_alloc | apply Kd.R_drewN | apply Kd.R_drew)); exact HO311.out) hb); have n6_ := Aside0.mk (Kd.S_lower (Kd.S_new' (Kd.S_new' (Kd.S_new' (Kd.S_new' (Kd.S_new' ho39 (Kd.R_lt (by (with_reducible repeat (first | apply Kd.R_alloc | apply Kd.R_drewN | apply Kd.R_drew)); exact HO_3.out))) (Kd.R_lt (by (with_reducible repeat (first | apply Kd.R_alloc | apply Kd.R_drewN | apply Kd.R_drew)); exact HO301.out))) (Kd.S_lt (by (with_reducible repeat (first | apply Kd.S_alloc | apply Kd.S_drewN | apply Kd.S_drew)); exact HO304.out))) (Kd.S_lt (by (with_reducible repeat (first | apply Kd.S_alloc | apply Kd.S_drewN | apply Kd.S_drew)); exact HO308.out))) (Kd.R_lt (by (with_reducible repeat (first | apply Kd.R_alloc | apply Kd.R_drewN | apply Kd.R_drew)); exact HO311.out))) (below_size (by repeat (first | (with_reducible first | exact HB.out | apply below_alloc | apply pw_below_drewN | apply below_drew1) | exact HB.out)))); have n7_ := Aside0.mk (below_step (by repeat (first | (with_reducible first | exact HB.out | apply below_alloc | apply pw_below_drewN | apply below_drew1) | exact HB.out)) hb); clear HO_3; clear HO_6; clear HO301; clear HO304; clear HO308; clear HO311; clear HB; have HO_3 := n0_; have HO_6 := n1_; have HO301 := n2_; have HO304 := n3_; have HO308 := n4_; have HO311 := n5_; have HO314 := n6_; have HB := n7_; clear n0_ n1_ n2_ n3_ n4_ n5_ n6_ n7_; clear hb ho39; obtain ⟨Ao40, co40, eo40⟩ := Kd.S_slice HO314.out; subst eo40; obtain ⟨Ao41, co41, eo41⟩ := Kd.R_slice HO311.out; subst eo41) | ((with_reducible refine gate_callee (f := 31) rfl ?_); refine goesL_ (some 85) rfl rfl Tryd.func31 (by kernel_rfl) rfl #[.slice Ao40 y312.length co40, .slice Ao34 y299.length co34, .slice Ao41 y309.length co41] rfl (by (try simp only [List.map_toArray, List.map_cons, List.map_nil]); first | done | rfl | (simp only [List.length_drop, List.length_take]; rfl)) ?_; (with_reducible refine (impl_SubUnify.calls k2 _ _ y312 _ _ y299 _ _ y309 t315 t316 _ ?side1 ?side2 ?side3 ?side4 ?side5 ?side6 A23.out).mono ?_); (case side1 => repeat (first | exact (Kd.S_reads' HO314.out).2.2 | (with_reducible refine Kd.C_alloc ?_ _) | (with_reducible refine Kd.C_drewN ?_ _) | (with_reducible refine Kd.C_drew ?_))); (case side2 => exact (Kd.S_reads' HO314.out).2.1); (case side3 => repeat (first | exact (Kd.R_reads' HO301.out).2.2 | (with_reducible refine Kd.C_alloc ?_ _) | (with_reducible refine Kd.C_drewN ?_ _) | (with_reducible refine Kd.C_drew ?_))); (case side4 => exact (Kd.R_reads' HO301.out).2.1); (case side5 => repeat (first | exact (Kd.R_reads' HO311.out).2.2 | (with_reducible refine Kd.C_alloc ?_ _) | (with_reducible refine Kd.C_drewN ?_ _) | (with_reducible refine Kd.C_drew ?_))); (case side6 => exact (Kd.R_reads' HO311.out).2.1); rintro e w42 ⟨v317, rfl, ho0, hb⟩; refine ⟨_, rfl, ?_⟩; have n0_ := Aside0.mk (Kd.R_below (by (with_reducible repeat (first | apply Kd.R_alloc | apply Kd.R_drewN | apply Kd.R_drew)); exact HO_3.out) hb); have n1_ := Aside0.mk (Kd.R_below (by (with_reducible repeat (first | apply Kd.R_alloc | apply Kd.R_drewN | apply Kd.R_drew)); exact HO_6.out) hb); have n2_ := Aside0.mk (Kd.R_below (by (with_reducible repeat (first | apply Kd.R_alloc | apply Kd.R_drewN | apply Kd.R_drew)); exact HO301.out) hb); have n3_ := Aside0.mk (Kd.S_elder' (by (with_reducible repeat (first | apply Kd.S_alloc | apply Kd.S_drewN | apply Kd.S_drew)); exact HO304.out) (Kd.S_base ho0) hb); have n4_ := Aside0.mk (Kd.S_elder' (by (with_reducible repeat (first | apply Kd.S_alloc | apply Kd.S_drewN | apply Kd.S_drew)); exact HO308.out) (Kd.S_base ho0) hb); have n5_ := Aside0.mk (Kd.R_below (by (with_reducible repeat (first | apply Kd.R_alloc | apply Kd.R_drewN | apply Kd.R_drew)); exact HO311.out) hb); have n6_ := Aside0.mk (Kd.S_elder' (by (with_reducible repeat (first | apply Kd.S_alloc | apply Kd.S_drewN | apply Kd.S_drew)); exact HO314.out) (Kd.S_base ho0) hb); have n7_ := Aside0.mk (Kd.S_lower (Kd.S_new' (Kd.S_new' (Kd.S_new' (Kd.S_new' (Kd.S_new' (Kd.S_new' ho0 (Kd.R_lt (by (with_reducible repeat (first | apply Kd.R_alloc | apply Kd.R_drewN | apply Kd.R_drew)); exact HO_3.out))) (Kd.R_lt (by (with_reducible repeat (first | apply Kd.R_alloc | apply Kd.R_drewN | apply Kd.R_drew)); exact HO301.out))) (Kd.S_lt (by (with_reducible repeat (first | apply Kd.S_alloc | apply Kd.S_drewN | apply Kd.S_drew)); exact HO304.out))) (Kd.S_lt (by (with_reducible repeat (first | apply Kd.S_alloc | apply Kd.S_drewN | apply Kd.S_drew)); exact HO308.out))) (Kd.R_lt (by (with_reducible repeat (first | apply Kd.R_alloc | apply Kd.R_drewN | apply Kd.R_drew)); exact HO311.out))) (Kd.S_lt (by (with_reducible repeat (first | apply Kd.S_alloc | apply Kd.S_drewN | apply Kd.S_drew)); exact HO314.out))) (below_size (by repeat (first | (with_reducible first | exact HB.out | apply below_alloc | apply pw_below_drewN | apply below_drew1) | exact HB.out)))); have n8_ := Aside0.mk (below_step (by repeat (first | (with_reducible first | exact HB.out | apply below_alloc | apply pw_below_drewN | apply below_drew1) | exact HB.out)) hb); clear HO_3; clear HO_6; clear HO301; clear HO304; clear HO308; clear HO311; clear HO314; clear HB; have HO_3 := n0_; have HO_6 := n1_; have HO301 := n2_; have HO304 := n3_; have HO308 := n4_; have HO311 := n5_; have HO314 := n6_; have HO318 := n7_; have HB := n8_; clear n0_ n1_ n2_ n3_ n4_ n5_ n6_ n7_ n8_; (try clear hb); (try clear hb2); (try clear hk); (try clear hi); (try clear ho0)) | ((with_reducible refine gate_dst (N := 89) rfl ?_); (try (refine gate_guard (by rfl) ?_; dsimp only)); refine Kd.S_lit k30 _ 30 ?hg (N := 89) ?hd (xs := ([] : List (S30))) (inner := []) (ok := fun _ => True) (okp := fun _ => True) ?hr ?hp (fun _ hk => hk) trivial (Below.refl _ _) (Nat.le_refl _) (by simp) ?_; (case hd => rfl); (case hg => rfl); (case hr => first | (go_simp; done) | (go_simp; rfl)); (case hp => exact (Reps.none _ _)); intro v320 w43 ho44 hb hg_ hnew_; clear hg_ hnew_; (first | rw [← Ny319.out] at ho44 | (simp only [Int.reduceToNat] at ho44; rw [← Ny319.out] at ho44)); have n0_ := Aside0.mk (Kd.R_below (by (with_reducible repeat (first | apply Kd.R_alloc | apply Kd.R_drewN | apply Kd.R_drew)); exact HO_3.out) hb); have n1_ := Aside0.mk (Kd.R_below (by (with_reducible repeat (first | apply Kd.R_alloc | apply Kd.R_drewN | apply Kd.R_drew)); exact HO_6.out) hb); have n2_ := Aside0.mk (Kd.R_below (by (with_reducible repeat (first | apply Kd.R_alloc | apply Kd.R_drewN | apply Kd.R_drew)); exact HO301.out) hb); have n3_ := Aside0.mk (Kd.S_elder' (by (with_reducible repeat (first | apply Kd.S_alloc | apply Kd.S_drewN | apply Kd.S_drew)); exact HO304.out) (Kd.S_base ho44) hb); have n4_ := Aside0.mk (Kd.S_elder' (by (with_reducible repeat (first | apply Kd.S_alloc | apply Kd.S_drewN | apply Kd.S_drew)); exact HO308.out) (Kd.S_base ho44) hb); have n5_ := Aside0.mk (Kd.R_below (by (with_reducible repeat (first | apply Kd.R_alloc | apply Kd.R_drewN | apply Kd.R_drew)); exact HO311.out) hb); have n6_ := Aside0.mk (Kd.S_elder' (by (with_reducible repeat (first | apply Kd.S_alloc | apply Kd.S_drewN | apply Kd.S_drew)); exact HO314.out) (Kd.S_base ho44) hb); have n7_ := Aside0.mk (Kd.S_elder' (by (with_reducible repeat (first | apply Kd.S_alloc | apply Kd.S_drewN | apply Kd.S_drew)); exact HO318.out) (Kd.S_base ho44) hb); have n8_ := Aside0.mk (Kd.S_lower (Kd.S_new' (Kd.S_new' (Kd.S_new' (Kd.S_new' (Kd.S_new' (Kd.S_new' (Kd.S_new' ho44 (Kd.R_lt (by (with_reducible repeat (first | apply Kd.R_alloc | apply Kd.R_drewN | apply Kd.R_drew)); exact HO_3.out))) (Kd.R_lt (by (with_reducible repeat (first | apply Kd.R_alloc | apply Kd.R_drewN | apply Kd.R_drew)); exact HO301.out))) (Kd.S_lt (by (with_reducible repeat (first | apply Kd.S_alloc | apply Kd.S_drewN | apply Kd.S_drew)); exact HO304.out))) (Kd.S_lt (by (with_reducible repeat (first | apply Kd.S_alloc | apply Kd.S_drewN | apply Kd.S_drew)); exact HO308.out))) (Kd.R_lt (by (with_reducible repeat (first | apply Kd.R_alloc | apply Kd.R_drewN | apply Kd.R_drew)); exact HO311.out))) (Kd.S_lt (by (with_reducible repeat (first | apply Kd.S_alloc | apply Kd.S_drewN | apply Kd.S_drew)); exact HO314.out))) (Kd.S_lt (by (with_reducible repeat (first | apply Kd.S_alloc | apply Kd.S_drewN | apply Kd.S_drew)); exact HO318.out))) (below_size (by repeat (first | (with_reducible first | exact HB.out | apply below_alloc | apply pw_below_drewN | apply below_drew1) | exact HB.out)))); have n9_ := Aside0.mk (below_step (by repeat (first | (with_reducible first | exact HB.out | apply below_alloc | apply pw_below_drewN | apply below_drew1) | exact HB.out)) hb); clear HO_3; clear HO_6; clear HO301; clear HO304; clear HO308; clear HO311; clear HO314; clear HO318; clear HB; have HO_3 := n0_; have HO_6 := n1_; have HO301 := n2_; have HO304 := n3_; have HO308 := n4_; have HO311 := n5_; have HO314 := n6_; have HO318 := n7_; have HO321 := n8_; have HB := n9_; clear n0_ n1_ n2_ n3_ n4_ n5_ n6_ n7_ n8_ n9_; clear hb ho44; obtain ⟨Ao45, co45, eo45⟩ := Kd.S_slice HO321.out; subst eo45) | ((with_reducible refine gate_callee (f := 31) rfl ?_); refine goesL_ (some 92) rfl rfl Tryd.func31 (by kernel_rfl) rfl #[.slice Ao45 y319.length co45, .slice Ao34 y299.length co34, .slice Ao34 y299.length co34] rfl (by (try simp only [List.map_toArray, List.map_cons, List.map_nil]); first | done | rfl | (simp only [List.length_drop, List.length_take]; rfl)) ?_; (with_reducible refine (impl_SubUnify.calls k2 _ _ y319 _ _ y299 _ _ y299 t322 t323 _ ?side1 ?side2 ?side3 ?side4 ?side5 ?side6 A24.out).mono ?_); (case side1 => repeat (first | exact (Kd.S_reads' HO321.out).2.2 | (with_reducible refine Kd.C_alloc ?_ _) | (with_reducible refine Kd.C_drewN ?_ _) | (with_reducible refine Kd.C_drew ?_))); (case side2 => exact (Kd.S_reads' HO321.out).2.1); (case side3 => repeat (first | exact (Kd.R_reads' HO301.out).2.2 | (with_reducible refine Kd.C_alloc ?_ _) | (with_reducible refine Kd.C_drewN ?_ _) | (with_reducible refine Kd.C_drew ?_))); (case side4 => exact (Kd.R_reads' HO301.out).2.1); (case side5 => repeat (first | exact (Kd.R_reads' HO301.out).2.2 | (with_reducible refine Kd.C_alloc ?_ _) | (with_reducible refine Kd.C_drewN ?_ _) | (with_reducible refine Kd.C_drew ?_))); (case side6 => exact (Kd.R_reads' HO301.out).2.1); rintro e w46 ⟨v324, rfl, ho0, hb⟩; refine ⟨_, rfl, ?_⟩; have n0_ := Aside0.mk (Kd.R_below (by (with_reducible repeat (first | apply Kd.R_alloc | apply Kd.R_drewN | apply Kd.R_drew)); exact HO_3.out) hb); have n1_ := Aside0.mk (Kd.R_below (by (with_reducible repeat (first | apply Kd.R_alloc | apply Kd.R_drewN | apply Kd.R_drew)); exact HO_6.out) hb); have n2_ := Aside0.mk (Kd.R_below (by (with_reducible repeat (first | apply Kd.R_alloc | apply Kd.R_drewN | apply Kd.R_drew)); exact HO301.out) hb); have n3_ := Aside0.mk (Kd.S_elder' (by (with_reducible repeat (first | apply Kd.S_alloc | apply Kd.S_drewN | apply Kd.S_drew)); exact HO304.out) (Kd.S_base ho0) hb); have n4_ := Aside0.mk (Kd.S_elder' (by (with_reducible repeat (first | apply Kd.S_alloc | apply Kd.S_drewN | apply Kd.S_drew)); exact HO308.out) (Kd.S_base ho0) hb); have n5_ := Aside0.mk (Kd.R_below (by (with_reducible repeat (first | apply Kd.R_alloc | apply Kd.R_drewN | apply Kd.R_drew)); exact HO311.out) hb); have n6_ := Aside0.mk (Kd.S_elder' (by (with_reducible repeat (first | apply Kd.S_alloc | apply Kd.S_drewN | apply Kd.S_drew)); exact HO314.out) (Kd.S_base ho0) hb); have n7_ := Aside0.mk (Kd.S_elder' (by (with_reducible repeat (first | apply Kd.S_alloc | apply Kd.S_drewN | apply Kd.S_drew)); exact HO318.out) (Kd.S_base ho0) hb); have n8_ := Aside0.mk (Kd.S_elder' (by (with_reducible repeat (first | apply Kd.S_alloc | apply Kd.S_drewN | apply Kd.S_drew)); exact HO321.out) (Kd.S_base ho0) hb); have n9_ := Aside0.mk (Kd.S_lower (Kd.S_new' (Kd.S_new' (Kd.S_new' (Kd.S_new' (Kd.S_new' (Kd.S_new' (Kd.S_new' (Kd.S_new' ho0 (Kd.R_lt (by (with_reducible repeat (first | apply Kd.R_alloc | apply Kd.R_drewN | apply Kd.R_drew)); exact HO_3.out))) (Kd.R_lt (by (with_reducible repeat (first | apply Kd.R_alloc | apply Kd.R_drewN | apply Kd.R_drew)); exact HO301.out))) (Kd.S_lt (by (with_reducible repeat (first | apply Kd.S_alloc | apply Kd.S_drewN | apply Kd.S_drew)); exact HO304.out))) (Kd.S_lt (by (with_reducible repeat (first | apply Kd.S_alloc | apply Kd.S_drewN | apply Kd.S_drew)); exact HO308.out))) (Kd.R_lt (by (with_reducible repeat (first | apply Kd.R_alloc | apply Kd.R_drewN | apply Kd.R_drew)); exact HO311.out))) (Kd.S_lt (by (with_reducible repeat (first | apply Kd.S_alloc | apply Kd.S_drewN | apply Kd.S_drew)); exact HO314.out))) (Kd.S_lt (by (with_reducible repeat (first | apply Kd.S_alloc | apply Kd.S_drewN | apply Kd.S_drew)); exact HO318.out))) (Kd.S_lt (by (with_reducible repeat (first | apply Kd.S_alloc | apply Kd.S_drewN | apply Kd.S_drew)); exact HO321.out))) (below_size (by repeat (first | (with_reducible first | exact HB.out | apply below_alloc | apply pw_below_drewN | apply below_drew1) | exact HB.out)))); have n10_ := Aside0.mk (below_step (by repeat (first | (with_reducible first | exact HB.out | apply below_alloc | apply pw_below_drewN | apply below_drew1) | exact HB.out)) hb); clear HO_3; clear HO_6; clear HO301; clear HO304; clear HO308; clear HO311; clear HO314; clear HO318; clear HO321; clear HB; have HO_3 := n0_; have HO_6 := n1_; have HO301 := n2_; have HO304 := n3_; have HO308 := n4_; have HO311 := n5_; have HO314 := n6_; have HO318 := n7_; have HO321 := n8_; have HO325 := n9_; have HB := n10_; clear n0_ n1_ n2_ n3_ n4_ n5_ n6_ n7_ n8_ n9_ n10_; (try clear hb); (try clear hb2); (try clear hk); (try clear hi); (try clear ho0); have p326 : 0 ≤ (0 : Int) := (by omega); have q326 : 0 < (t281.length : Int) := of_decide_eq_true (by first | (with_reducible assumption) | assumption); obtain ⟨ad326, e326, hx326_0, hx326_1, hx326_2⟩ := at_T46 (Kd.R_reads' HO_3.out).2.2 0 p326 q326; cases e326; have qi326 : (0 < t281.length) = True := eq_true (by omega); (try rw [show ((0 : Int)).toNat = 0 from rfl] at hx326_0); (try rw [show 0 * 3 = 0 from rfl] at hx326_0); (try rw [Addr.add_zero'] at hx326_0); (try rw [show ((0 : Int)).toNat = 0 from rfl] at hx326_1); (try rw [show 0 * 3 = 0 from rfl] at hx326_1); (try rw [Addr.add_zero'] at hx326_1); (try rw [show ((0 : Int)).toNat = 0 from rfl] at hx326_2); (try rw [show 0 * 3 = 0 from rfl] at hx326_2); (try rw [Addr.add_zero'] at hx326_2); replace p326 := eq_true p326; replace q326 := eq_true q326))
                        (try simp only [Act.put, List.setIfInBounds_toArray, List.set_cons_zero, List.set_cons_succ])
                        go_cut [2] (fun v2 wc => ∃ (kq : Nat) (x2_27 : Bool), v2 = .bool x2_27 ∧ Aside0 (laws_FnSubVar.j2 kq x2_27 = some r) ∧ Aside0 (kq ≤ k2) ∧ Aside0 (Below w.heap.size w wc))
                        case first =>
                          have H := HC28.out
                          clear HC28
                          by_cases c47 : t306 = 1
                          · rw [if_pos c47] at H
                            have c47b0 : (t306 == 1) = true := beq_iff_eq.mpr c47
                            have c47b1 : (t306 != 1) = false := bne_eq_false_iff_eq.mpr c47
                            clear c47
                            (first | rw [c47b0] | (simp only [i64_w, i32_w]; rw [c47b0]) | skip)
                            by_cases c48 : (t305.length : Int) = 1
                            · rw [if_pos c48] at H
                              have c48b0 : ((t305.length : Int) == 1) = true := beq_iff_eq.mpr c48
                              have c48b1 : ((t305.length : Int) != 1) = false := bne_eq_false_iff_eq.mpr c48
                              clear c48
                              by_cases c49 : t316 = 2
                              · rw [if_pos c49] at H
                                have c49b0 : (t316 == 2) = true := beq_iff_eq.mpr c49
                                have c49b1 : (t316 != 2) = false := bne_eq_false_iff_eq.mpr c49
                                clear c49
                                by_cases c50 : t323 = 1
                                · rw [if_pos c50] at H
                                  have c50b0 : (t323 == 1) = true := beq_iff_eq.mpr c50
                                  have c50b1 : (t323 != 1) = false := bne_eq_false_iff_eq.mpr c50
                                  clear c50
                                  have H' := Aside0.mk H
                                  clear H
                                  obtain ⟨Ao51, co51, eo51⟩ := Kd.S_slice HO308.out
                                  subst eo51
                                  obtain ⟨Ao52, co52, eo52⟩ := Kd.S_slice HO325.out
                                  subst eo52
                                  go_wp2
                                  go_meet
                                  case rel => exact ⟨_, (((t322.length : Int) == 0)), (by first | rfl | (simp; done) | (simp [*]; done)), H', ⟨by have := HK1.out; have := HK2.out; first | omega | exact Nat.le_refl _⟩, ⟨by repeat (first | (with_reducible first | exact HB.out | apply below_alloc | apply pw_below_drewN | apply below_drew1) | exact HB.out)⟩⟩
                                · rw [if_neg c50] at H
                                  have c50b0 : (t323 == 1) = false := beq_eq_false_iff_ne.mpr c50
                                  have c50b1 : (t323 != 1) = true := bne_iff_ne.mpr c50
                                  have H' := Aside0.mk H
                                  clear H
                                  obtain ⟨Ao53, co53, eo53⟩ := Kd.S_slice HO308.out
                                  subst eo53
                                  go_wp2
                                  go_meet
                                  case rel => exact ⟨_, (false), (by first | rfl | (simp; done) | (simp [*]; done)), H', ⟨by have := HK1.out; have := HK2.out; first | omega | exact Nat.le_refl _⟩, ⟨by repeat (first | (with_reducible first | exact HB.out | apply below_alloc | apply pw_below_drewN | apply below_drew1) | exact HB.out)⟩⟩
                              · rw [if_neg c49] at H
                                have c49b0 : (t316 == 2) = false := beq_eq_false_iff_ne.mpr c49
                                have c49b1 : (t316 != 2) = true := bne_iff_ne.mpr c49
                                have H' := Aside0.mk H
                                clear H
                                obtain ⟨Ao54, co54, eo54⟩ := Kd.S_slice HO308.out
                                subst eo54
                                go_wp2
                                go_meet
                                case rel => exact ⟨_, (false), (by first | rfl | (simp; done) | (simp [*]; done)), H', ⟨by have := HK1.out; have := HK2.out; first | omega | exact Nat.le_refl _⟩, ⟨by repeat (first | (with_reducible first | exact HB.out | apply below_alloc | apply pw_below_drewN | apply below_drew1) | exact HB.out)⟩⟩
                            · rw [if_neg c48] at H
                              have c48b0 : ((t305.length : Int) == 1) = false := beq_eq_false_iff_ne.mpr c48
                              have c48b1 : ((t305.length : Int) != 1) = true := bne_iff_ne.mpr c48
                              have H' := Aside0.mk H
                              clear H
                              obtain ⟨Ao55, co55, eo55⟩ := Kd.S_slice HO308.out
                              subst eo55
                              go_wp2
                              go_meet
                              case rel => exact ⟨_, (false), (by first | rfl | (simp; done) | (simp [*]; done)), H', ⟨by have := HK1.out; have := HK2.out; first | omega | exact Nat.le_refl _⟩, ⟨by repeat (first | (with_reducible first | exact HB.out | apply below_alloc | apply pw_below_drewN | apply below_drew1) | exact HB.out)⟩⟩
                          · rw [if_neg c47] at H
                            have c47b0 : (t306 == 1) = false := beq_eq_false_iff_ne.mpr c47
                            have c47b1 : (t306 != 1) = true := bne_iff_ne.mpr c47
                            (first | rw [c47b0] | (simp only [i64_w, i32_w]; rw [c47b0]) | skip)
                            have H' := Aside0.mk H
                            clear H
                            go_wp2
                            go_meet
                            case rel => exact ⟨_, (false), (by first | rfl | (simp; done) | (simp [*]; done)), H', ⟨by have := HK1.out; have := HK2.out; first | omega | exact Nat.le_refl _⟩, ⟨by repeat (first | (with_reducible first | exact HB.out | apply below_alloc | apply pw_below_drewN | apply below_drew1) | exact HB.out)⟩⟩
                        case rest =>
                          clear HC28
                          try clear c1
                          try clear c2
                          try clear c2b0
                          try clear c2b1
                          try clear p2
                          try clear q2
                          try clear hx2
                          try clear c3
                          try clear p3
                          try clear q3
                          try clear hx3
                          try clear qi3
                          try clear c4
                          try clear c5
                          try clear c6
                          try clear p6
                          try clear c11
                          try clear c11b0
                          try clear c12
                          try clear c12b0
                          try clear c17
                          try clear c17b0
                          try clear c18
                          try clear c18b0
                          try clear c19
                          try clear c19b0
                          try clear c19b1
                          try clear c22
                          try clear c25
                          try clear c25b0
                          try clear c25b1
                          try clear c26
                          try clear c26b0
                          try clear c26b1
                          try clear c27
                          try clear c27b0
                          try clear c27b1
                          try clear c29
                          try clear p29
                          try clear q29
                          try clear hx29
                          try clear c30
                          try clear c31
                          try clear c32
                          try clear p32
                          try clear q32
                          try clear hx32
                          try clear qi32
                          try clear c47
                          try clear c47b0
                          try clear c47b1
                          try clear c48
                          try clear c48b0
                          try clear c48b1
                          try clear c49
                          try clear c49b0
                          try clear c49b1
                          try clear c50
                          try clear c50b0
                          try clear c50b1
                          try clear hx296_0
                          try clear hx297_0
                          try clear hx326_0
                          try clear hx326_1
                          try clear hx326_2
                          try clear p2
                          try clear p296
                          try clear p297
                          try clear p326
                          try clear p6
                          try clear q2
                          try clear q296
                          try clear q297
                          try clear q326
                          obtain ⟨kq, x2_27, rfl, HA, HJ27, HB⟩ := hcut
                          cases kq with
                          | zero => exact absurd HA.out (by simp [laws_FnSubVar.j2])
                          | succ kj27 =>
                            have H := HA.out
                            clear HA
                            simp only [laws_FnSubVar.j2] at H
                            obtain rfl := Option.some.inj H
                            go_wp2
                            go_ret
                            exact ⟨by first | rfl | (simp [errW_none, errW_some] <;> rfl) | (simp [*, errW_none, errW_some] <;> rfl), by repeat (first | (with_reducible first | exact HB.out | apply below_alloc | apply pw_below_drewN | apply below_drew1) | exact HB.out)⟩
                      · rw [if_neg c27] at H
                        have c27b0 : (((rd_T46 t281 0).f0) == 1) = false := beq_eq_false_iff_ne.mpr c27
                        have c27b1 : (((rd_T46 t281 0).f0) != 1) = true := bne_iff_ne.mpr c27
                        have HC56 := Aside0.mk H
                        clear H
                        go_upto_region 25 with (first | ((with_reducible refine gate_dst (N := 69) rfl ?_); (try (refine gate_guard (by rfl) ?_; dsimp only)); refine Kd.R_lit k46 _ 46 ?hg (N := 69) ?hd (xs := ([(⟨1, x7_1, (⟨#[]⟩ : ByteArray)⟩ : S46)] : List (S46))) (inner := [.int .i64 1, .int .i64 x7_1, .string (⟨#[]⟩ : ByteArray)]) (ok := fun _ => True) (okp := fun _ => True) ?hr ?hp (fun _ hk => hk) trivial (Below.refl _ _) (Nat.le_refl _) (by simp) ?_; (case hd => rfl); (case hg => rfl); (case hr => first | (go_simp; done) | (go_simp; rfl)); (case hp => exact (Reps.c3 (show Kd.M k46 _ _ _ (⟨1, x7_1, (⟨#[]⟩ : ByteArray)⟩ : S46) [.int .i64 1, .int .i64 x7_1, .string (⟨#[]⟩ : ByteArray)] from (k46_mkM _ _ _ (⟨1, x7_1, (⟨#[]⟩ : ByteArray)⟩ : S46) )) (Reps.none _ _))); intro v300 w57 ho58 hb hg_ hnew_; clear hg_ hnew_; (first | rw [← Ny299.out] at ho58 | (simp only [Int.reduceToNat] at ho58; rw [← Ny299.out] at ho58)); have n0_ := Aside0.mk (Kd.R_elder' (by (with_reducible repeat (first | apply Kd.R_alloc | apply Kd.R_drewN | apply Kd.R_drew)); exact HO_3.out) (Kd.R_base ho58) hb); have n1_ := Aside0.mk (Kd.R_below (by (with_reducible repeat (first | apply Kd.R_alloc | apply Kd.R_drewN | apply Kd.R_drew)); exact HO_6.out) hb); have n2_ := Aside0.mk (Kd.R_lower (Kd.R_new' ho58 (Kd.R_lt (by (with_reducible repeat (first | apply Kd.R_alloc | apply Kd.R_drewN | apply Kd.R_drew)); exact HO_3.out))) (below_size (by repeat (first | (with_reducible first | exact HB.out | apply below_alloc | apply pw_below_drewN | apply below_drew1) | exact HB.out)))); have n3_ := Aside0.mk (below_step (by repeat (first | (with_reducible first | exact HB.out | apply below_alloc | apply pw_below_drewN | apply below_drew1) | exact HB.out)) hb); clear HO_3; clear HO_6; clear HB; have HO_3 := n0_; have HO_6 := n1_; have HO301 := n2_; have HB := n3_; clear n0_ n1_ n2_ n3_; clear hb ho58) | ((with_reducible refine gate_dst (N := 71) rfl ?_); (try (refine gate_guard (by rfl) ?_; dsimp only)); refine Kd.S_lit k30 _ 30 ?hg (N := 71) ?hd (xs := ([] : List (S30))) (inner := []) (ok := fun _ => True) (okp := fun _ => True) ?hr ?hp (fun _ hk => hk) trivial (Below.refl _ _) (Nat.le_refl _) (by simp) ?_; (case hd => rfl); (case hg => rfl); (case hr => first | (go_simp; done) | (go_simp; rfl)); (case hp => exact (Reps.none _ _)); intro v303 w59 ho60 hb hg_ hnew_; clear hg_ hnew_; (first | rw [← Ny302.out] at ho60 | (simp only [Int.reduceToNat] at ho60; rw [← Ny302.out] at ho60)); have n0_ := Aside0.mk (Kd.R_below (by (with_reducible repeat (first | apply Kd.R_alloc | apply Kd.R_drewN | apply Kd.R_drew)); exact HO_3.out) hb); have n1_ := Aside0.mk (Kd.R_below (by (with_reducible repeat (first | apply Kd.R_alloc | apply Kd.R_drewN | apply Kd.R_drew)); exact HO_6.out) hb); have n2_ := Aside0.mk (Kd.R_below (by (with_reducible repeat (first | apply Kd.R_alloc | apply Kd.R_drewN | apply Kd.R_drew)); exact HO301.out) hb); have n3_ := Aside0.mk (Kd.S_lower (Kd.S_new' (Kd.S_new' ho60 (Kd.R_lt (by (with_reducible repeat (first | apply Kd.R_alloc | apply Kd.R_drewN | apply Kd.R_drew)); exact HO_3.out))) (Kd.R_lt (by (with_reducible repeat (first | apply Kd.R_alloc | apply Kd.R_drewN | apply Kd.R_drew)); exact HO301.out))) (below_size (by repeat (first | (with_reducible first | exact HB.out | apply below_alloc | apply pw_below_drewN | apply below_drew1) | exact HB.out)))); have n4_ := Aside0.mk (below_step (by repeat (first | (with_reducible first | exact HB.out | apply below_alloc | apply pw_below_drewN | apply below_drew1) | exact HB.out)) hb); clear HO_3; clear HO_6; clear HO301; clear HB; have HO_3 := n0_; have HO_6 := n1_; have HO301 := n2_; have HO304 := n3_; have HB := n4_; clear n0_ n1_ n2_ n3_ n4_; clear hb ho60; obtain ⟨Ao61, co61, eo61⟩ := Kd.S_slice HO304.out; subst eo61; obtain ⟨Ao62, co62, eo62⟩ := Kd.R_slice HO301.out; subst eo62) | ((with_reducible refine gate_callee (f := 31) rfl ?_); refine goesL_ (some 74) rfl rfl Tryd.func31 (by kernel_rfl) rfl #[.slice Ao61 y302.length co61, .slice Ao62 y299.length co62, .slice Ao8 t281.length co8] rfl (by (try simp only [List.map_toArray, List.map_cons, List.map_nil]); first | done | rfl | (simp only [List.length_drop, List.length_take]; rfl)) ?_; (with_reducible refine (impl_SubUnify.calls k2 _ _ y302 _ _ y299 _ _ t281 t305 t306 _ ?side1 ?side2 ?side3 ?side4 ?side5 ?side6 A22.out).mono ?_); (case side1 => repeat (first | exact (Kd.S_reads' HO304.out).2.2 | (with_reducible refine Kd.C_alloc ?_ _) | (with_reducible refine Kd.C_drewN ?_ _) | (with_reducible refine Kd.C_drew ?_))); (case side2 => exact (Kd.S_reads' HO304.out).2.1); (case side3 => repeat (first | exact (Kd.R_reads' HO301.out).2.2 | (with_reducible refine Kd.C_alloc ?_ _) | (with_reducible refine Kd.C_drewN ?_ _) | (with_reducible refine Kd.C_drew ?_))); (case side4 => exact (Kd.R_reads' HO301.out).2.1); (case side5 => repeat (first | exact (Kd.R_reads' HO_3.out).2.2 | (with_reducible refine Kd.C_alloc ?_ _) | (with_reducible refine Kd.C_drewN ?_ _) | (with_reducible refine Kd.C_drew ?_))); (case side6 => exact (Kd.R_reads' HO_3.out).2.1); rintro e w63 ⟨v307, rfl, ho0, hb⟩; refine ⟨_, rfl, ?_⟩; have n0_ := Aside0.mk (Kd.R_below (by (with_reducible repeat (first | apply Kd.R_alloc | apply Kd.R_drewN | apply Kd.R_drew)); exact HO_3.out) hb); have n1_ := Aside0.mk (Kd.R_below (by (with_reducible repeat (first | apply Kd.R_alloc | apply Kd.R_drewN | apply Kd.R_drew)); exact HO_6.out) hb); have n2_ := Aside0.mk (Kd.R_below (by (with_reducible repeat (first | apply Kd.R_alloc | apply Kd.R_drewN | apply Kd.R_drew)); exact HO301.out) hb); have n3_ := Aside0.mk (Kd.S_elder' (by (with_reducible repeat (first | apply Kd.S_alloc | apply Kd.S_drewN | apply Kd.S_drew)); exact HO304.out) (Kd.S_base ho0) hb); have n4_ := Aside0.mk (Kd.S_lower (Kd.S_new' (Kd.S_new' (Kd.S_new' ho0 (Kd.R_lt (by (with_reducible repeat (first | apply Kd.R_alloc | apply Kd.R_drewN | apply Kd.R_drew)); exact HO_3.out))) (Kd.R_lt (by (with_reducible repeat (first | apply Kd.R_alloc | apply Kd.R_drewN | apply Kd.R_drew)); exact HO301.out))) (Kd.S_lt (by (with_reducible repeat (first | apply Kd.S_alloc | apply Kd.S_drewN | apply Kd.S_drew)); exact HO304.out))) (below_size (by repeat (first | (with_reducible first | exact HB.out | apply below_alloc | apply pw_below_drewN | apply below_drew1) | exact HB.out)))); have n5_ := Aside0.mk (below_step (by repeat (first | (with_reducible first | exact HB.out | apply below_alloc | apply pw_below_drewN | apply below_drew1) | exact HB.out)) hb); clear HO_3; clear HO_6; clear HO301; clear HO304; clear HB; have HO_3 := n0_; have HO_6 := n1_; have HO301 := n2_; have HO304 := n3_; have HO308 := n4_; have HB := n5_; clear n0_ n1_ n2_ n3_ n4_ n5_; (try clear hb); (try clear hb2); (try clear hk); (try clear hi); (try clear ho0)) | ((with_reducible refine gate_dst (N := 80) rfl ?_); (try (refine gate_guard (by rfl) ?_; dsimp only)); refine Kd.R_lit k46 _ 46 ?hg (N := 80) ?hd (xs := ([(⟨3, 1, (⟨#[102]⟩ : ByteArray)⟩ : S46), (⟨1, x7_1, (⟨#[]⟩ : ByteArray)⟩ : S46)] : List (S46))) (inner := [.int .i64 3, .int .i64 1, .string (⟨#[102]⟩ : ByteArray), .int .i64 1, .int .i64 x7_1, .string (⟨#[]⟩ : ByteArray)]) (ok := fun _ => True) (okp := fun _ => True) ?hr ?hp (fun _ hk => hk) trivial (Below.refl _ _) (Nat.le_refl _) (by simp) ?_; (case hd => rfl); (case hg => rfl); (case hr => first | (go_simp; done) | (go_simp; rfl)); (case hp => exact (Reps.c3 (show Kd.M k46 _ _ _ (⟨3, 1, (⟨#[102]⟩ : ByteArray)⟩ : S46) [.int .i64 3, .int .i64 1, .string (⟨#[102]⟩ : ByteArray)] from (k46_mkM _ _ _ (⟨3, 1, (⟨#[102]⟩ : ByteArray)⟩ : S46) )) (Reps.c3 (show Kd.M k46 _ _ _ (⟨1, x7_1, (⟨#[]⟩ : ByteArray)⟩ : S46) [.int .i64 1, .int .i64 x7_1, .string (⟨#[]⟩ : ByteArray)] from (k46_mkM _ _ _ (⟨1, x7_1, (⟨#[]⟩ : ByteArray)⟩ : S46) )) (Reps.none _ _)))); intro v310 w64 ho65 hb hg_ hnew_; clear hg_ hnew_; (first | rw [← Ny309.out] at ho65 | (simp only [Int.reduceToNat] at ho65; rw [← Ny309.out] at ho65)); have n0_ := Aside0.mk (Kd.R_elder' (by (with_reducible repeat (first | apply Kd.R_alloc | apply Kd.R_drewN | apply Kd.R_drew)); exact HO_3.out) (Kd.R_base ho65) hb); have n1_ := Aside0.mk (Kd.R_below (by (with_reducible repeat (first | apply Kd.R_alloc | apply Kd.R_drewN | apply Kd.R_drew)); exact HO_6.out) hb); have n2_ := Aside0.mk (Kd.R_elder' (by (with_reducible repeat (first | apply Kd.R_alloc | apply Kd.R_drewN | apply Kd.R_drew)); exact HO301.out) (Kd.R_base ho65) hb); have n3_ := Aside0.mk (Kd.S_elder' (by (with_reducible repeat (first | apply Kd.S_alloc | apply Kd.S_drewN | apply Kd.S_drew)); exact HO304.out) (Kd.R_base ho65) hb); have n4_ := Aside0.mk (Kd.S_elder' (by (with_reducible repeat (first | apply Kd.S_alloc | apply Kd.S_drewN | apply Kd.S_drew)); exact HO308.out) (Kd.R_base ho65) hb); have n5_ := Aside0.mk (Kd.R_lower (Kd.R_new' (Kd.R_new' ho65 (Kd.R_lt (by (with_reducible repeat (first | apply Kd.R_alloc | apply Kd.R_drewN | apply Kd.R_drew)); exact HO_3.out))) (Kd.R_lt (by (with_reducible repeat (first | apply Kd.R_alloc | apply Kd.R_drewN | apply Kd.R_drew)); exact HO301.out))) (below_size (by repeat (first | (with_reducible first | exact HB.out | apply below_alloc | apply pw_below_drewN | apply below_drew1) | exact HB.out)))); have n6_ := Aside0.mk (below_step (by repeat (first | (with_reducible first | exact HB.out | apply below_alloc | apply pw_below_drewN | apply below_drew1) | exact HB.out)) hb); clear HO_3; clear HO_6; clear HO301; clear HO304; clear HO308; clear HB; have HO_3 := n0_; have HO_6 := n1_; have HO301 := n2_; have HO304 := n3_; have HO308 := n4_; have HO311 := n5_; have HB := n6_; clear n0_ n1_ n2_ n3_ n4_ n5_ n6_; clear hb ho65) | ((with_reducible refine gate_dst (N := 82) rfl ?_); (try (refine gate_guard (by rfl) ?_; dsimp only)); refine Kd.S_lit k30 _ 30 ?hg (N := 82) ?hd (xs := ([] : List (S30))) (inner := []) (ok := fun _ => True) (okp := fun _ => True) ?hr ?hp (fun _ hk => hk) trivial (Below.refl _ _) (Nat.le_refl _) (by simp) ?_; (case hd => rfl); (case hg => rfl); (case hr => first | (go_simp; done) | (go_simp; rfl)); (case hp => exact (Reps.none _ _)); intro v313 w66 ho67 hb hg_ hnew_; clear hg_ hnew_; (first | rw [← Ny312.out] at ho67 | (simp only [Int.reduceToNat] at ho67; rw [← Ny312.out] at ho67)); have n0_ := Aside0.mk (Kd.R_below (by (with_reducible repeat (first | apply Kd.R_alloc | apply Kd.R_drewN | apply Kd.R_drew)); exact HO_3.out) hb); have n1_ := Aside0.mk (Kd.R_below (by (with_reducible repeat (first | apply Kd.R_alloc | apply Kd.R_drewN | apply Kd.R_drew)); exact HO_6.out) hb); have n2_ := Aside0.mk (Kd.R_below (by (with_reducible repeat (first | apply Kd.R_alloc | apply Kd.R_drewN | apply Kd.R_drew)); exact HO301.out) hb); have n3_ := Aside0.mk (Kd.S_elder' (by (with_reducible repeat (first | apply Kd.S_alloc | apply Kd.S_drewN | apply Kd.S_drew)); exact HO304.out) (Kd.S_base ho67) hb); have n4_ := Aside0.mk (Kd.S_elder' (by (with_reducible repeat (first | apply Kd.S_alloc | apply Kd.S_drewN | apply Kd.S_drew)); exact HO308.out) (Kd.S_base ho67) hb); have n5_ := Aside0.mk (Kd.R_below (by (with_reducible repeat (first | apply Kd.R_alloc | apply Kd.R_drewN | apply Kd.R_drew)); exact HO311.out) hb); have n6_ := Aside0.mk (Kd.S_lower (Kd.S_new' (Kd.S_new' (Kd.S_new' (Kd.S_new' (Kd.S_new' ho67 (Kd.R_lt (by (with_reducible repeat (first | apply Kd.R_alloc | apply Kd.R_drewN | apply Kd.R_drew)); exact HO_3.out))) (Kd.R_lt (by (with_reducible repeat (first | apply Kd.R_alloc | apply Kd.R_drewN | apply Kd.R_drew)); exact HO301.out))) (Kd.S_lt (by (with_reducible repeat (first | apply Kd.S_alloc | apply Kd.S_drewN | apply Kd.S_drew)); exact HO304.out))) (Kd.S_lt (by (with_reducible repeat (first | apply Kd.S_alloc | apply Kd.S_drewN | apply Kd.S_drew)); exact HO308.out))) (Kd.R_lt (by (with_reducible repeat (first | apply Kd.R_alloc | apply Kd.R_drewN | apply Kd.R_drew)); exact HO311.out))) (below_size (by repeat (first | (with_reducible first | exact HB.out | apply below_alloc | apply pw_below_drewN | apply below_drew1) | exact HB.out)))); have n7_ := Aside0.mk (below_step (by repeat (first | (with_reducible first | exact HB.out | apply below_alloc | apply pw_below_drewN | apply below_drew1) | exact HB.out)) hb); clear HO_3; clear HO_6; clear HO301; clear HO304; clear HO308; clear HO311; clear HB; have HO_3 := n0_; have HO_6 := n1_; have HO301 := n2_; have HO304 := n3_; have HO308 := n4_; have HO311 := n5_; have HO314 := n6_; have HB := n7_; clear n0_ n1_ n2_ n3_ n4_ n5_ n6_ n7_; clear hb ho67; obtain ⟨Ao68, co68, eo68⟩ := Kd.S_slice HO314.out; subst eo68; obtain ⟨Ao69, co69, eo69⟩ := Kd.R_slice HO311.out; subst eo69) | ((with_reducible refine gate_callee (f := 31) rfl ?_); refine goesL_ (some 85) rfl rfl Tryd.func31 (by kernel_rfl) rfl #[.slice Ao68 y312.length co68, .slice Ao62 y299.length co62, .slice Ao69 y309.length co69] rfl (by (try simp only [List.map_toArray, List.map_cons, List.map_nil]); first | done | rfl | (simp only [List.length_drop, List.length_take]; rfl)) ?_; (with_reducible refine (impl_SubUnify.calls k2 _ _ y312 _ _ y299 _ _ y309 t315 t316 _ ?side1 ?side2 ?side3 ?side4 ?side5 ?side6 A23.out).mono ?_); (case side1 => repeat (first | exact (Kd.S_reads' HO314.out).2.2 | (with_reducible refine Kd.C_alloc ?_ _) | (with_reducible refine Kd.C_drewN ?_ _) | (with_reducible refine Kd.C_drew ?_))); (case side2 => exact (Kd.S_reads' HO314.out).2.1); (case side3 => repeat (first | exact (Kd.R_reads' HO301.out).2.2 | (with_reducible refine Kd.C_alloc ?_ _) | (with_reducible refine Kd.C_drewN ?_ _) | (with_reducible refine Kd.C_drew ?_))); (case side4 => exact (Kd.R_reads' HO301.out).2.1); (case side5 => repeat (first | exact (Kd.R_reads' HO311.out).2.2 | (with_reducible refine Kd.C_alloc ?_ _) | (with_reducible refine Kd.C_drewN ?_ _) | (with_reducible refine Kd.C_drew ?_))); (case side6 => exact (Kd.R_reads' HO311.out).2.1); rintro e w70 ⟨v317, rfl, ho0, hb⟩; refine ⟨_, rfl, ?_⟩; have n0_ := Aside0.mk (Kd.R_below (by (with_reducible repeat (first | apply Kd.R_alloc | apply Kd.R_drewN | apply Kd.R_drew)); exact HO_3.out) hb); have n1_ := Aside0.mk (Kd.R_below (by (with_reducible repeat (first | apply Kd.R_alloc | apply Kd.R_drewN | apply Kd.R_drew)); exact HO_6.out) hb); have n2_ := Aside0.mk (Kd.R_below (by (with_reducible repeat (first | apply Kd.R_alloc | apply Kd.R_drewN | apply Kd.R_drew)); exact HO301.out) hb); have n3_ := Aside0.mk (Kd.S_elder' (by (with_reducible repeat (first | apply Kd.S_alloc | apply Kd.S_drewN | apply Kd.S_drew)); exact HO304.out) (Kd.S_base ho0) hb); have n4_ := Aside0.mk (Kd.S_elder' (by (with_reducible repeat (first | apply Kd.S_alloc | apply Kd.S_drewN | apply Kd.S_drew)); exact HO308.out) (Kd.S_base ho0) hb); have n5_ := Aside0.mk (Kd.R_below (by (with_reducible repeat (first | apply Kd.R_alloc | apply Kd.R_drewN | apply Kd.R_drew)); exact HO311.out) hb); have n6_ := Aside0.mk (Kd.S_elder' (by (with_reducible repeat (first | apply Kd.S_alloc | apply Kd.S_drewN | apply Kd.S_drew)); exact HO314.out) (Kd.S_base ho0) hb); have n7_ := Aside0.mk (Kd.S_lower (Kd.S_new' (Kd.S_new' (Kd.S_new' (Kd.S_new' (Kd.S_new' (Kd.S_new' ho0 (Kd.R_lt (by (with_reducible repeat (first | apply Kd.R_alloc | apply Kd.R_drewN | apply Kd.R_drew)); exact HO_3.out))) (Kd.R_lt (by (with_reducible repeat (first | apply Kd.R_alloc | apply Kd.R_drewN | apply Kd.R_drew)); exact HO301.out))) (Kd.S_lt (by (with_reducible repeat (first | apply Kd.S_alloc | apply Kd.S_drewN | apply Kd.S_drew)); exact HO304.out))) (Kd.S_lt (by (with_reducible repeat (first | apply Kd.S_alloc | apply Kd.S_drewN | apply Kd.S_drew)); exact HO308.out))) (Kd.R_lt (by (with_reducible repeat (first | apply Kd.R_alloc | apply Kd.R_drewN | apply Kd.R_drew)); exact HO311.out))) (Kd.S_lt (by (with_reducible repeat (first | apply Kd.S_alloc | apply Kd.S_drewN | apply Kd.S_drew)); exact HO314.out))) (below_size (by repeat (first | (with_reducible first | exact HB.out | apply below_alloc | apply pw_below_drewN | apply below_drew1) | exact HB.out)))); have n8_ := Aside0.mk (below_step (by repeat (first | (with_reducible first | exact HB.out | apply below_alloc | apply pw_below_drewN | apply below_drew1) | exact HB.out)) hb); clear HO_3; clear HO_6; clear HO301; clear HO304; clear HO308; clear HO311; clear HO314; clear HB; have HO_3 := n0_; have HO_6 := n1_; have HO301 := n2_; have HO304 := n3_; have HO308 := n4_; have HO311 := n5_; have HO314 := n6_; have HO318 := n7_; have HB := n8_; clear n0_ n1_ n2_ n3_ n4_ n5_ n6_ n7_ n8_; (try clear hb); (try clear hb2); (try clear hk); (try clear hi); (try clear ho0)) | ((with_reducible refine gate_dst (N := 89) rfl ?_); (try (refine gate_guard (by rfl) ?_; dsimp only)); refine Kd.S_lit k30 _ 30 ?hg (N := 89) ?hd (xs := ([] : List (S30))) (inner := []) (ok := fun _ => True) (okp := fun _ => True) ?hr ?hp (fun _ hk => hk) trivial (Below.refl _ _) (Nat.le_refl _) (by simp) ?_; (case hd => rfl); (case hg => rfl); (case hr => first | (go_simp; done) | (go_simp; rfl)); (case hp => exact (Reps.none _ _)); intro v320 w71 ho72 hb hg_ hnew_; clear hg_ hnew_; (first | rw [← Ny319.out] at ho72 | (simp only [Int.reduceToNat] at ho72; rw [← Ny319.out] at ho72)); have n0_ := Aside0.mk (Kd.R_below (by (with_reducible repeat (first | apply Kd.R_alloc | apply Kd.R_drewN | apply Kd.R_drew)); exact HO_3.out) hb); have n1_ := Aside0.mk (Kd.R_below (by (with_reducible repeat (first | apply Kd.R_alloc | apply Kd.R_drewN | apply Kd.R_drew)); exact HO_6.out) hb); have n2_ := Aside0.mk (Kd.R_below (by (with_reducible repeat (first | apply Kd.R_alloc | apply Kd.R_drewN | apply Kd.R_drew)); exact HO301.out) hb); have n3_ := Aside0.mk (Kd.S_elder' (by (with_reducible repeat (first | apply Kd.S_alloc | apply Kd.S_drewN | apply Kd.S_drew)); exact HO304.out) (Kd.S_base ho72) hb); have n4_ := Aside0.mk (Kd.S_elder' (by (with_reducible repeat (first | apply Kd.S_alloc | apply Kd.S_drewN | apply Kd.S_drew)); exact HO308.out) (Kd.S_base ho72) hb); have n5_ := Aside0.mk (Kd.R_below (by (with_reducible repeat (first | apply Kd.R_alloc | apply Kd.R_drewN | apply Kd.R_drew)); exact HO311.out) hb); have n6_ := Aside0.mk (Kd.S_elder' (by (with_reducible repeat (first | apply Kd.S_alloc | apply Kd.S_drewN | apply Kd.S_drew)); exact HO314.out) (Kd.S_base ho72) hb); have n7_ := Aside0.mk (Kd.S_elder' (by (with_reducible repeat (first | apply Kd.S_alloc | apply Kd.S_drewN | apply Kd.S_drew)); exact HO318.out) (Kd.S_base ho72) hb); have n8_ := Aside0.mk (Kd.S_lower (Kd.S_new' (Kd.S_new' (Kd.S_new' (Kd.S_new' (Kd.S_new' (Kd.S_new' (Kd.S_new' ho72 (Kd.R_lt (by (with_reducible repeat (first | apply Kd.R_alloc | apply Kd.R_drewN | apply Kd.R_drew)); exact HO_3.out))) (Kd.R_lt (by (with_reducible repeat (first | apply Kd.R_alloc | apply Kd.R_drewN | apply Kd.R_drew)); exact HO301.out))) (Kd.S_lt (by (with_reducible repeat (first | apply Kd.S_alloc | apply Kd.S_drewN | apply Kd.S_drew)); exact HO304.out))) (Kd.S_lt (by (with_reducible repeat (first | apply Kd.S_alloc | apply Kd.S_drewN | apply Kd.S_drew)); exact HO308.out))) (Kd.R_lt (by (with_reducible repeat (first | apply Kd.R_alloc | apply Kd.R_drewN | apply Kd.R_drew)); exact HO311.out))) (Kd.S_lt (by (with_reducible repeat (first | apply Kd.S_alloc | apply Kd.S_drewN | apply Kd.S_drew)); exact HO314.out))) (Kd.S_lt (by (with_reducible repeat (first | apply Kd.S_alloc | apply Kd.S_drewN | apply Kd.S_drew)); exact HO318.out))) (below_size (by repeat (first | (with_reducible first | exact HB.out | apply below_alloc | apply pw_below_drewN | apply below_drew1) | exact HB.out)))); have n9_ := Aside0.mk (below_step (by repeat (first | (with_reducible first | exact HB.out | apply below_alloc | apply pw_below_drewN | apply below_drew1) | exact HB.out)) hb); clear HO_3; clear HO_6; clear HO301; clear HO304; clear HO308; clear HO311; clear HO314; clear HO318; clear HB; have HO_3 := n0_; have HO_6 := n1_; have HO301 := n2_; have HO304 := n3_; have HO308 := n4_; have HO311 := n5_; have HO314 := n6_; have HO318 := n7_; have HO321 := n8_; have HB := n9_; clear n0_ n1_ n2_ n3_ n4_ n5_ n6_ n7_ n8_ n9_; clear hb ho72; obtain ⟨Ao73, co73, eo73⟩ := Kd.S_slice HO321.out; subst eo73) | ((with_reducible refine gate_callee (f := 31) rfl ?_); refine goesL_ (some 92) rfl rfl Tryd.func31 (by kernel_rfl) rfl #[.slice Ao73 y319.length co73, .slice Ao62 y299.length co62, .slice Ao62 y299.length co62] rfl (by (try simp only [List.map_toArray, List.map_cons, List.map_nil]); first | done | rfl | (simp only [List.length_drop, List.length_take]; rfl)) ?_; (with_reducible refine (impl_SubUnify.calls k2 _ _ y319 _ _ y299 _ _ y299 t322 t323 _ ?side1 ?side2 ?side3 ?side4 ?side5 ?side6 A24.out).mono ?_); (case side1 => repeat (first | exact (Kd.S_reads' HO321.out).2.2 | (with_reducible refine Kd.C_alloc ?_ _) | (with_reducible refine Kd.C_drewN ?_ _) | (with_reducible refine Kd.C_drew ?_))); (case side2 => exact (Kd.S_reads' HO321.out).2.1); (case side3 => repeat (first | exact (Kd.R_reads' HO301.out).2.2 | (with_reducible refine Kd.C_alloc ?_ _) | (with_reducible refine Kd.C_drewN ?_ _) | (with_reducible refine Kd.C_drew ?_))); (case side4 => exact (Kd.R_reads' HO301.out).2.1); (case side5 => repeat (first | exact (Kd.R_reads' HO301.out).2.2 | (with_reducible refine Kd.C_alloc ?_ _) | (with_reducible refine Kd.C_drewN ?_ _) | (with_reducible refine Kd.C_drew ?_))); (case side6 => exact (Kd.R_reads' HO301.out).2.1); rintro e w74 ⟨v324, rfl, ho0, hb⟩; refine ⟨_, rfl, ?_⟩; have n0_ := Aside0.mk (Kd.R_below (by (with_reducible repeat (first | apply Kd.R_alloc | apply Kd.R_drewN | apply Kd.R_drew)); exact HO_3.out) hb); have n1_ := Aside0.mk (Kd.R_below (by (with_reducible repeat (first | apply Kd.R_alloc | apply Kd.R_drewN | apply Kd.R_drew)); exact HO_6.out) hb); have n2_ := Aside0.mk (Kd.R_below (by (with_reducible repeat (first | apply Kd.R_alloc | apply Kd.R_drewN | apply Kd.R_drew)); exact HO301.out) hb); have n3_ := Aside0.mk (Kd.S_elder' (by (with_reducible repeat (first | apply Kd.S_alloc | apply Kd.S_drewN | apply Kd.S_drew)); exact HO304.out) (Kd.S_base ho0) hb); have n4_ := Aside0.mk (Kd.S_elder' (by (with_reducible repeat (first | apply Kd.S_alloc | apply Kd.S_drewN | apply Kd.S_drew)); exact HO308.out) (Kd.S_base ho0) hb); have n5_ := Aside0.mk (Kd.R_below (by (with_reducible repeat (first | apply Kd.R_alloc | apply Kd.R_drewN | apply Kd.R_drew)); exact HO311.out) hb); have n6_ := Aside0.mk (Kd.S_elder' (by (with_reducible repeat (first | apply Kd.S_alloc | apply Kd.S_drewN | apply Kd.S_drew)); exact HO314.out) (Kd.S_base ho0) hb); have n7_ := Aside0.mk (Kd.S_elder' (by (with_reducible repeat (first | apply Kd.S_alloc | apply Kd.S_drewN | apply Kd.S_drew)); exact HO318.out) (Kd.S_base ho0) hb); have n8_ := Aside0.mk (Kd.S_elder' (by (with_reducible repeat (first | apply Kd.S_alloc | apply Kd.S_drewN | apply Kd.S_drew)); exact HO321.out) (Kd.S_base ho0) hb); have n9_ := Aside0.mk (Kd.S_lower (Kd.S_new' (Kd.S_new' (Kd.S_new' (Kd.S_new' (Kd.S_new' (Kd.S_new' (Kd.S_new' (Kd.S_new' ho0 (Kd.R_lt (by (with_reducible repeat (first | apply Kd.R_alloc | apply Kd.R_drewN | apply Kd.R_drew)); exact HO_3.out))) (Kd.R_lt (by (with_reducible repeat (first | apply Kd.R_alloc | apply Kd.R_drewN | apply Kd.R_drew)); exact HO301.out))) (Kd.S_lt (by (with_reducible repeat (first | apply Kd.S_alloc | apply Kd.S_drewN | apply Kd.S_drew)); exact HO304.out))) (Kd.S_lt (by (with_reducible repeat (first | apply Kd.S_alloc | apply Kd.S_drewN | apply Kd.S_drew)); exact HO308.out))) (Kd.R_lt (by (with_reducible repeat (first | apply Kd.R_alloc | apply Kd.R_drewN | apply Kd.R_drew)); exact HO311.out))) (Kd.S_lt (by (with_reducible repeat (first | apply Kd.S_alloc | apply Kd.S_drewN | apply Kd.S_drew)); exact HO314.out))) (Kd.S_lt (by (with_reducible repeat (first | apply Kd.S_alloc | apply Kd.S_drewN | apply Kd.S_drew)); exact HO318.out))) (Kd.S_lt (by (with_reducible repeat (first | apply Kd.S_alloc | apply Kd.S_drewN | apply Kd.S_drew)); exact HO321.out))) (below_size (by repeat (first | (with_reducible first | exact HB.out | apply below_alloc | apply pw_below_drewN | apply below_drew1) | exact HB.out)))); have n10_ := Aside0.mk (below_step (by repeat (first | (with_reducible first | exact HB.out | apply below_alloc | apply pw_below_drewN | apply below_drew1) | exact HB.out)) hb); clear HO_3; clear HO_6; clear HO301; clear HO304; clear HO308; clear HO311; clear HO314; clear HO318; clear HO321; clear HB; have HO_3 := n0_; have HO_6 := n1_; have HO301 := n2_; have HO304 := n3_; have HO308 := n4_; have HO311 := n5_; have HO314 := n6_; have HO318 := n7_; have HO321 := n8_; have HO325 := n9_; have HB := n10_; clear n0_ n1_ n2_ n3_ n4_ n5_ n6_ n7_ n8_ n9_ n10_; (try clear hb); (try clear hb2); (try clear hk); (try clear hi); (try clear ho0); have p326 : 0 ≤ (0 : Int) := (by omega); have q326 : 0 < (t281.length : Int) := of_decide_eq_true (by first | (with_reducible assumption) | assumption); obtain ⟨ad326, e326, hx326_0, hx326_1, hx326_2⟩ := at_T46 (Kd.R_reads' HO_3.out).2.2 0 p326 q326; cases e326; have qi326 : (0 < t281.length) = True := eq_true (by omega); (try rw [show ((0 : Int)).toNat = 0 from rfl] at hx326_0); (try rw [show 0 * 3 = 0 from rfl] at hx326_0); (try rw [Addr.add_zero'] at hx326_0); (try rw [show ((0 : Int)).toNat = 0 from rfl] at hx326_1); (try rw [show 0 * 3 = 0 from rfl] at hx326_1); (try rw [Addr.add_zero'] at hx326_1); (try rw [show ((0 : Int)).toNat = 0 from rfl] at hx326_2); (try rw [show 0 * 3 = 0 from rfl] at hx326_2); (try rw [Addr.add_zero'] at hx326_2); replace p326 := eq_true p326; replace q326 := eq_true q326))
                        (try simp only [Act.put, List.setIfInBounds_toArray, List.set_cons_zero, List.set_cons_succ])
                        go_cut [2] (fun v2 wc => ∃ (kq : Nat) (x2_55 : Bool), v2 = .bool x2_55 ∧ Aside0 (laws_FnSubVar.j3 kq x2_55 = some r) ∧ Aside0 (kq ≤ k2) ∧ Aside0 (Below w.heap.size w wc))
                        case first =>
                          have H := HC56.out
                          clear HC56
                          by_cases c75 : t306 = 1
                          · rw [if_pos c75] at H
                            have c75b0 : (t306 == 1) = true := beq_iff_eq.mpr c75
                            have c75b1 : (t306 != 1) = false := bne_eq_false_iff_eq.mpr c75
                            clear c75
                            (first | rw [c75b0] | (simp only [i64_w, i32_w]; rw [c75b0]) | skip)
                            by_cases c76 : (t305.length : Int) = 1
                            · rw [if_pos c76] at H
                              have c76b0 : ((t305.length : Int) == 1) = true := beq_iff_eq.mpr c76
                              have c76b1 : ((t305.length : Int) != 1) = false := bne_eq_false_iff_eq.mpr c76
                              clear c76
                              by_cases c77 : 0 < (t305.length : Int)
                              · rw [if_pos c77] at H
                                have c77b0 : decide (0 < (t305.length : Int)) = true := decide_eq_true c77
                                have c77b1 : decide (0 < t305.length) = true := decide_eq_true (by omega)
                                clear c77
                                by_cases c78 : ((rd_T30 t305 0).f0) = x7_1
                                · rw [if_pos c78] at H
                                  have c78b0 : (((rd_T30 t305 0).f0) == x7_1) = true := beq_iff_eq.mpr c78
                                  have c78b1 : (((rd_T30 t305 0).f0) != x7_1) = false := bne_eq_false_iff_eq.mpr c78
                                  clear c78
                                  replace H := Option.bind_eq_some_iff.mp H
                                  obtain ⟨t329, A790, H⟩ := H
                                  replace H : (if t329 = true then (if t316 = 2 then (if t323 = 1 then (laws_FnSubVar.j3 k2 ((t322.length : Int) == 0)) else (laws_FnSubVar.j3 k2 false)) else (laws_FnSubVar.j3 k2 false)) else (laws_FnSubVar.j3 k2 false)) = some r := H
                                  have A79 := Aside0.mk A790
                                  clear A790
                                  by_cases c80 : t329 = true
                                  · subst c80
                                    have H1 : (if t316 = 2 then (if t323 = 1 then (laws_FnSubVar.j3 k2 ((t322.length : Int) == 0)) else (laws_FnSubVar.j3 k2 false)) else (laws_FnSubVar.j3 k2 false)) = some r := by rw [if_pos rfl] at H; exact H
                                    clear H
                                    have H := H1
                                    clear H1
                                    by_cases c81 : t316 = 2
                                    · rw [if_pos c81] at H
                                      have c81b0 : (t316 == 2) = true := beq_iff_eq.mpr c81
                                      have c81b1 : (t316 != 2) = false := bne_eq_false_iff_eq.mpr c81
                                      clear c81
                                      by_cases c82 : t323 = 1
                                      · rw [if_pos c82] at H
                                        have c82b0 : (t323 == 1) = true := beq_iff_eq.mpr c82
                                        have c82b1 : (t323 != 1) = false := bne_eq_false_iff_eq.mpr c82
                                        clear c82
                                        have H' := Aside0.mk H
                                        clear H
                                        obtain ⟨Ao83, co83, eo83⟩ := Kd.S_slice HO308.out
                                        subst eo83
                                        have p327 : 0 ≤ (0 : Int) := (by omega)
                                        have q327 : 0 < (t305.length : Int) := of_decide_eq_true (by first | (with_reducible assumption) | assumption)
                                        obtain ⟨ad327, A327_1, c327_1, e327, hx327_0, hx327_1, hl327_1, hi327_1⟩ := at_T30 (Kd.S_reads' HO308.out).2.2 0 p327 q327
                                        cases e327
                                        obtain ⟨ce327, hce327, hMe327, hcc327⟩ := Kd.S_get HO308.out z30 0 p327 (by first | exact q327 | exact of_decide_eq_true (by first | (with_reducible assumption) | assumption) | (have e_ := (Kd.S_reads' HO308.out).1; omega))
                                        obtain ⟨ve327_1, rfl, ge327_1⟩ := k30_openM hMe327
                                        have hv327_1 := hcc327 1 _ rfl
                                        rw [add_field _ _ 1 (by omega)] at hv327_1
                                        replace hv327_1 := Option.some.inj (hv327_1.symm.trans hx327_1)
                                        rw [hv327_1] at ge327_1
                                        have HL327_1 := Aside0.mk (show Kd.R k46 46 _ _ _ _ ((rd_T30 t305 0).f1) from ge327_1)
                                        clear hv327_1 ge327_1
                                        clear hcc327 hce327
                                        have qi327 : (0 < t305.length) = True := eq_true (by omega)
                                        (try rw [show ((0 : Int)).toNat = 0 from rfl] at hx327_0)
                                        (try rw [show 0 * 2 = 0 from rfl] at hx327_0)
                                        (try rw [Addr.add_zero'] at hx327_0)
                                        (try rw [show ((0 : Int)).toNat = 0 from rfl] at hx327_1)
                                        (try rw [show 0 * 2 = 0 from rfl] at hx327_1)
                                        (try rw [Addr.add_zero'] at hx327_1)
                                        have HR327_1 := Aside0.mk hi327_1
                                        have HC327_1 := Aside0.mk hl327_1
                                        clear hi327_1 hl327_1
                                        replace p327 := eq_true p327
                                        replace q327 := eq_true q327
                                        have p328 : 0 ≤ (0 : Int) := (by omega)
                                        have q328 : 0 < (t305.length : Int) := of_decide_eq_true (by first | (with_reducible assumption) | assumption)
                                        obtain ⟨ad328, A328_1, c328_1, e328, hx328_0, hx328_1, hl328_1, hi328_1⟩ := at_T30 (Kd.S_reads' HO308.out).2.2 0 p328 q328
                                        obtain rfl : ad327 = ad328 := (by injection e328)
                                        obtain ⟨ce328, hce328, hMe328, hcc328⟩ := Kd.S_get HO308.out z30 0 p328 (by first | exact q328 | exact of_decide_eq_true (by first | (with_reducible assumption) | assumption) | (have e_ := (Kd.S_reads' HO308.out).1; omega))
                                        obtain ⟨ve328_1, rfl, ge328_1⟩ := k30_openM hMe328
                                        have hv328_1 := hcc328 1 _ rfl
                                        rw [add_field _ _ 1 (by omega)] at hv328_1
                                        replace hv328_1 := Option.some.inj (hv328_1.symm.trans hx328_1)
                                        rw [hv328_1] at ge328_1
                                        have HL328_1 := Aside0.mk (show Kd.R k46 46 _ _ _ _ ((rd_T30 t305 0).f1) from ge328_1)
                                        clear hv328_1 ge328_1
                                        clear hcc328 hce328
                                        have qi328 : (0 < t305.length) = True := eq_true (by omega)
                                        (try rw [show ((0 : Int)).toNat = 0 from rfl] at hx328_0)
                                        (try rw [show 0 * 2 = 0 from rfl] at hx328_0)
                                        (try rw [Addr.add_zero'] at hx328_0)
                                        (try rw [show ((0 : Int)).toNat = 0 from rfl] at hx328_1)
                                        (try rw [show 0 * 2 = 0 from rfl] at hx328_1)
                                        (try rw [Addr.add_zero'] at hx328_1)
                                        have HR328_1 := Aside0.mk hi328_1
                                        have HC328_1 := Aside0.mk hl328_1
                                        clear hi328_1 hl328_1
                                        replace p328 := eq_true p328
                                        replace q328 := eq_true q328
                                        have ea_ := Option.some.inj (hx327_1.symm.trans hx328_1)
                                        injection ea_ with ea_ en_ ec_
                                        subst ea_
                                        subst ec_
                                        clear en_
                                        go_wp2_with (first | (go_at_call 20; (with_reducible refine (laws_caTerm.calls k2 _ _ ((rd_T30 t305 0).f1) _ _ t281 true _ ?side1 ?side2 ?side3 ?side4 A79.out).mono ?_); (case side1 => repeat (first | exact (by repeat (first | (with_reducible exact HR328_1.out) | (with_reducible refine Kd.C_alloc ?_ _) | (with_reducible refine Kd.C_drewN ?_ _) | (with_reducible refine Kd.C_drew ?_) | exact HR328_1.out)) | (with_reducible refine Kd.C_alloc ?_ _) | (with_reducible refine Kd.C_drewN ?_ _) | (with_reducible refine Kd.C_drew ?_))); (case side2 => exact HC328_1.out); (case side3 => repeat (first | exact (Kd.R_reads' HO_3.out).2.2 | (with_reducible refine Kd.C_alloc ?_ _) | (with_reducible refine Kd.C_drewN ?_ _) | (with_reducible refine Kd.C_drew ?_))); (case side4 => exact (Kd.R_reads' HO_3.out).2.1); rintro e w' ⟨rfl, ⟨nd, rfl⟩⟩; obtain ⟨Ao84, co84, eo84⟩ := Kd.S_slice HO325.out; subst eo84))
                                        go_meet
                                        case rel => exact ⟨_, (((t322.length : Int) == 0)), (by first | rfl | (simp; done) | (simp [*]; done)), H', ⟨by have := HK1.out; have := HK2.out; first | omega | exact Nat.le_refl _⟩, ⟨by repeat (first | (with_reducible first | exact HB.out | apply below_alloc | apply pw_below_drewN | apply below_drew1) | exact HB.out)⟩⟩
                                      · rw [if_neg c82] at H
                                        have c82b0 : (t323 == 1) = false := beq_eq_false_iff_ne.mpr c82
                                        have c82b1 : (t323 != 1) = true := bne_iff_ne.mpr c82
                                        have H' := Aside0.mk H
                                        clear H
                                        obtain ⟨Ao85, co85, eo85⟩ := Kd.S_slice HO308.out
                                        subst eo85
                                        have p327 : 0 ≤ (0 : Int) := (by omega)
                                        have q327 : 0 < (t305.length : Int) := of_decide_eq_true (by first | (with_reducible assumption) | assumption)
                                        obtain ⟨ad327, A327_1, c327_1, e327, hx327_0, hx327_1, hl327_1, hi327_1⟩ := at_T30 (Kd.S_reads' HO308.out).2.2 0 p327 q327
                                        cases e327
                                        obtain ⟨ce327, hce327, hMe327, hcc327⟩ := Kd.S_get HO308.out z30 0 p327 (by first | exact q327 | exact of_decide_eq_true (by first | (with_reducible assumption) | assumption) | (have e_ := (Kd.S_reads' HO308.out).1; omega))
                                        obtain ⟨ve327_1, rfl, ge327_1⟩ := k30_openM hMe327
                                        have hv327_1 := hcc327 1 _ rfl
                                        rw [add_field _ _ 1 (by omega)] at hv327_1
                                        replace hv327_1 := Option.some.inj (hv327_1.symm.trans hx327_1)
                                        rw [hv327_1] at ge327_1
                                        have HL327_1 := Aside0.mk (show Kd.R k46 46 _ _ _ _ ((rd_T30 t305 0).f1) from ge327_1)
                                        clear hv327_1 ge327_1
                                        clear hcc327 hce327
                                        have qi327 : (0 < t305.length) = True := eq_true (by omega)
                                        (try rw [show ((0 : Int)).toNat = 0 from rfl] at hx327_0)
                                        (try rw [show 0 * 2 = 0 from rfl] at hx327_0)
                                        (try rw [Addr.add_zero'] at hx327_0)
                                        (try rw [show ((0 : Int)).toNat = 0 from rfl] at hx327_1)
                                        (try rw [show 0 * 2 = 0 from rfl] at hx327_1)
                                        (try rw [Addr.add_zero'] at hx327_1)
                                        have HR327_1 := Aside0.mk hi327_1
                                        have HC327_1 := Aside0.mk hl327_1
                                        clear hi327_1 hl327_1
                                        replace p327 := eq_true p327
                                        replace q327 := eq_true q327
                                        have p328 : 0 ≤ (0 : Int) := (by omega)
                                        have q328 : 0 < (t305.length : Int) := of_decide_eq_true (by first | (with_reducible assumption) | assumption)
                                        obtain ⟨ad328, A328_1, c328_1, e328, hx328_0, hx328_1, hl328_1, hi328_1⟩ := at_T30 (Kd.S_reads' HO308.out).2.2 0 p328 q328
                                        obtain rfl : ad327 = ad328 := (by injection e328)
                                        obtain ⟨ce328, hce328, hMe328, hcc328⟩ := Kd.S_get HO308.out z30 0 p328 (by first | exact q328 | exact of_decide_eq_true (by first | (with_reducible assumption) | assumption) | (have e_ := (Kd.S_reads' HO308.out).1; omega))
                                        obtain ⟨ve328_1, rfl, ge328_1⟩ := k30_openM hMe328
                                        have hv328_1 := hcc328 1 _ rfl
                                        rw [add_field _ _ 1 (by omega)] at hv328_1
                                        replace hv328_1 := Option.some.inj (hv328_1.symm.trans hx328_1)
                                        rw [hv328_1] at ge328_1
                                        have HL328_1 := Aside0.mk (show Kd.R k46 46 _ _ _ _ ((rd_T30 t305 0).f1) from ge328_1)
                                        clear hv328_1 ge328_1
                                        clear hcc328 hce328
                                        have qi328 : (0 < t305.length) = True := eq_true (by omega)
                                        (try rw [show ((0 : Int)).toNat = 0 from rfl] at hx328_0)
                                        (try rw [show 0 * 2 = 0 from rfl] at hx328_0)
                                        (try rw [Addr.add_zero'] at hx328_0)
                                        (try rw [show ((0 : Int)).toNat = 0 from rfl] at hx328_1)
                                        (try rw [show 0 * 2 = 0 from rfl] at hx328_1)
                                        (try rw [Addr.add_zero'] at hx328_1)
                                        have HR328_1 := Aside0.mk hi328_1
                                        have HC328_1 := Aside0.mk hl328_1
                                        clear hi328_1 hl328_1
                                        replace p328 := eq_true p328
                                        replace q328 := eq_true q328
                                        have ea_ := Option.some.inj (hx327_1.symm.trans hx328_1)
                                        injection ea_ with ea_ en_ ec_
                                        subst ea_
                                        subst ec_
                                        clear en_
                                        go_wp2_with (first | (go_at_call 20; (with_reducible refine (laws_caTerm.calls k2 _ _ ((rd_T30 t305 0).f1) _ _ t281 true _ ?side1 ?side2 ?side3 ?side4 A79.out).mono ?_); (case side1 => repeat (first | exact (by repeat (first | (with_reducible exact HR328_1.out) | (with_reducible refine Kd.C_alloc ?_ _) | (with_reducible refine Kd.C_drewN ?_ _) | (with_reducible refine Kd.C_drew ?_) | exact HR328_1.out)) | (with_reducible refine Kd.C_alloc ?_ _) | (with_reducible refine Kd.C_drewN ?_ _) | (with_reducible refine Kd.C_drew ?_))); (case side2 => exact HC328_1.out); (case side3 => repeat (first | exact (Kd.R_reads' HO_3.out).2.2 | (with_reducible refine Kd.C_alloc ?_ _) | (with_reducible refine Kd.C_drewN ?_ _) | (with_reducible refine Kd.C_drew ?_))); (case side4 => exact (Kd.R_reads' HO_3.out).2.1); rintro e w' ⟨rfl, ⟨nd, rfl⟩⟩))
                                        go_meet
                                        case rel => exact ⟨_, (false), (by first | rfl | (simp; done) | (simp [*]; done)), H', ⟨by have := HK1.out; have := HK2.out; first | omega | exact Nat.le_refl _⟩, ⟨by repeat (first | (with_reducible first | exact HB.out | apply below_alloc | apply pw_below_drewN | apply below_drew1) | exact HB.out)⟩⟩
                                    · rw [if_neg c81] at H
                                      have c81b0 : (t316 == 2) = false := beq_eq_false_iff_ne.mpr c81
                                      have c81b1 : (t316 != 2) = true := bne_iff_ne.mpr c81
                                      have H' := Aside0.mk H
                                      clear H
                                      obtain ⟨Ao86, co86, eo86⟩ := Kd.S_slice HO308.out
                                      subst eo86
                                      have p327 : 0 ≤ (0 : Int) := (by omega)
                                      have q327 : 0 < (t305.length : Int) := of_decide_eq_true (by first | (with_reducible assumption) | assumption)
                                      obtain ⟨ad327, A327_1, c327_1, e327, hx327_0, hx327_1, hl327_1, hi327_1⟩ := at_T30 (Kd.S_reads' HO308.out).2.2 0 p327 q327
                                      cases e327
                                      obtain ⟨ce327, hce327, hMe327, hcc327⟩ := Kd.S_get HO308.out z30 0 p327 (by first | exact q327 | exact of_decide_eq_true (by first | (with_reducible assumption) | assumption) | (have e_ := (Kd.S_reads' HO308.out).1; omega))
                                      obtain ⟨ve327_1, rfl, ge327_1⟩ := k30_openM hMe327
                                      have hv327_1 := hcc327 1 _ rfl
                                      rw [add_field _ _ 1 (by omega)] at hv327_1
                                      replace hv327_1 := Option.some.inj (hv327_1.symm.trans hx327_1)
                                      rw [hv327_1] at ge327_1
                                      have HL327_1 := Aside0.mk (show Kd.R k46 46 _ _ _ _ ((rd_T30 t305 0).f1) from ge327_1)
                                      clear hv327_1 ge327_1
                                      clear hcc327 hce327
                                      have qi327 : (0 < t305.length) = True := eq_true (by omega)
                                      (try rw [show ((0 : Int)).toNat = 0 from rfl] at hx327_0)
                                      (try rw [show 0 * 2 = 0 from rfl] at hx327_0)
                                      (try rw [Addr.add_zero'] at hx327_0)
                                      (try rw [show ((0 : Int)).toNat = 0 from rfl] at hx327_1)
                                      (try rw [show 0 * 2 = 0 from rfl] at hx327_1)
                                      (try rw [Addr.add_zero'] at hx327_1)
                                      have HR327_1 := Aside0.mk hi327_1
                                      have HC327_1 := Aside0.mk hl327_1
                                      clear hi327_1 hl327_1
                                      replace p327 := eq_true p327
                                      replace q327 := eq_true q327
                                      have p328 : 0 ≤ (0 : Int) := (by omega)
                                      have q328 : 0 < (t305.length : Int) := of_decide_eq_true (by first | (with_reducible assumption) | assumption)
                                      obtain ⟨ad328, A328_1, c328_1, e328, hx328_0, hx328_1, hl328_1, hi328_1⟩ := at_T30 (Kd.S_reads' HO308.out).2.2 0 p328 q328
                                      obtain rfl : ad327 = ad328 := (by injection e328)
                                      obtain ⟨ce328, hce328, hMe328, hcc328⟩ := Kd.S_get HO308.out z30 0 p328 (by first | exact q328 | exact of_decide_eq_true (by first | (with_reducible assumption) | assumption) | (have e_ := (Kd.S_reads' HO308.out).1; omega))
                                      obtain ⟨ve328_1, rfl, ge328_1⟩ := k30_openM hMe328
                                      have hv328_1 := hcc328 1 _ rfl
                                      rw [add_field _ _ 1 (by omega)] at hv328_1
                                      replace hv328_1 := Option.some.inj (hv328_1.symm.trans hx328_1)
                                      rw [hv328_1] at ge328_1
                                      have HL328_1 := Aside0.mk (show Kd.R k46 46 _ _ _ _ ((rd_T30 t305 0).f1) from ge328_1)
                                      clear hv328_1 ge328_1
                                      clear hcc328 hce328
                                      have qi328 : (0 < t305.length) = True := eq_true (by omega)
                                      (try rw [show ((0 : Int)).toNat = 0 from rfl] at hx328_0)
                                      (try rw [show 0 * 2 = 0 from rfl] at hx328_0)
                                      (try rw [Addr.add_zero'] at hx328_0)
                                      (try rw [show ((0 : Int)).toNat = 0 from rfl] at hx328_1)
                                      (try rw [show 0 * 2 = 0 from rfl] at hx328_1)
                                      (try rw [Addr.add_zero'] at hx328_1)
                                      have HR328_1 := Aside0.mk hi328_1
                                      have HC328_1 := Aside0.mk hl328_1
                                      clear hi328_1 hl328_1
                                      replace p328 := eq_true p328
                                      replace q328 := eq_true q328
                                      have ea_ := Option.some.inj (hx327_1.symm.trans hx328_1)
                                      injection ea_ with ea_ en_ ec_
                                      subst ea_
                                      subst ec_
                                      clear en_
                                      go_wp2_with (first | (go_at_call 20; (with_reducible refine (laws_caTerm.calls k2 _ _ ((rd_T30 t305 0).f1) _ _ t281 true _ ?side1 ?side2 ?side3 ?side4 A79.out).mono ?_); (case side1 => repeat (first | exact (by repeat (first | (with_reducible exact HR328_1.out) | (with_reducible refine Kd.C_alloc ?_ _) | (with_reducible refine Kd.C_drewN ?_ _) | (with_reducible refine Kd.C_drew ?_) | exact HR328_1.out)) | (with_reducible refine Kd.C_alloc ?_ _) | (with_reducible refine Kd.C_drewN ?_ _) | (with_reducible refine Kd.C_drew ?_))); (case side2 => exact HC328_1.out); (case side3 => repeat (first | exact (Kd.R_reads' HO_3.out).2.2 | (with_reducible refine Kd.C_alloc ?_ _) | (with_reducible refine Kd.C_drewN ?_ _) | (with_reducible refine Kd.C_drew ?_))); (case side4 => exact (Kd.R_reads' HO_3.out).2.1); rintro e w' ⟨rfl, ⟨nd, rfl⟩⟩))
                                      go_meet
                                      case rel => exact ⟨_, (false), (by first | rfl | (simp; done) | (simp [*]; done)), H', ⟨by have := HK1.out; have := HK2.out; first | omega | exact Nat.le_refl _⟩, ⟨by repeat (first | (with_reducible first | exact HB.out | apply below_alloc | apply pw_below_drewN | apply below_drew1) | exact HB.out)⟩⟩
                                  · replace c80 := Bool.eq_false_iff.mpr c80
                                    subst c80
                                    have H1 : (laws_FnSubVar.j3 k2 false) = some r := by rw [if_neg (show ¬ (false = true) by decide)] at H; exact H
                                    clear H
                                    have H := H1
                                    clear H1
                                    have H' := Aside0.mk H
                                    clear H
                                    obtain ⟨Ao87, co87, eo87⟩ := Kd.S_slice HO308.out
                                    subst eo87
                                    have p327 : 0 ≤ (0 : Int) := (by omega)
                                    have q327 : 0 < (t305.length : Int) := of_decide_eq_true (by first | (with_reducible assumption) | assumption)
                                    obtain ⟨ad327, A327_1, c327_1, e327, hx327_0, hx327_1, hl327_1, hi327_1⟩ := at_T30 (Kd.S_reads' HO308.out).2.2 0 p327 q327
                                    cases e327
                                    obtain ⟨ce327, hce327, hMe327, hcc327⟩ := Kd.S_get HO308.out z30 0 p327 (by first | exact q327 | exact of_decide_eq_true (by first | (with_reducible assumption) | assumption) | (have e_ := (Kd.S_reads' HO308.out).1; omega))
                                    obtain ⟨ve327_1, rfl, ge327_1⟩ := k30_openM hMe327
                                    have hv327_1 := hcc327 1 _ rfl
                                    rw [add_field _ _ 1 (by omega)] at hv327_1
                                    replace hv327_1 := Option.some.inj (hv327_1.symm.trans hx327_1)
                                    rw [hv327_1] at ge327_1
                                    have HL327_1 := Aside0.mk (show Kd.R k46 46 _ _ _ _ ((rd_T30 t305 0).f1) from ge327_1)
                                    clear hv327_1 ge327_1
                                    clear hcc327 hce327
                                    have qi327 : (0 < t305.length) = True := eq_true (by omega)
                                    (try rw [show ((0 : Int)).toNat = 0 from rfl] at hx327_0)
                                    (try rw [show 0 * 2 = 0 from rfl] at hx327_0)
                                    (try rw [Addr.add_zero'] at hx327_0)
                                    (try rw [show ((0 : Int)).toNat = 0 from rfl] at hx327_1)
                                    (try rw [show 0 * 2 = 0 from rfl] at hx327_1)
                                    (try rw [Addr.add_zero'] at hx327_1)
                                    have HR327_1 := Aside0.mk hi327_1
                                    have HC327_1 := Aside0.mk hl327_1
                                    clear hi327_1 hl327_1
                                    replace p327 := eq_true p327
                                    replace q327 := eq_true q327
                                    have p328 : 0 ≤ (0 : Int) := (by omega)
                                    have q328 : 0 < (t305.length : Int) := of_decide_eq_true (by first | (with_reducible assumption) | assumption)
                                    obtain ⟨ad328, A328_1, c328_1, e328, hx328_0, hx328_1, hl328_1, hi328_1⟩ := at_T30 (Kd.S_reads' HO308.out).2.2 0 p328 q328
                                    obtain rfl : ad327 = ad328 := (by injection e328)
                                    obtain ⟨ce328, hce328, hMe328, hcc328⟩ := Kd.S_get HO308.out z30 0 p328 (by first | exact q328 | exact of_decide_eq_true (by first | (with_reducible assumption) | assumption) | (have e_ := (Kd.S_reads' HO308.out).1; omega))
                                    obtain ⟨ve328_1, rfl, ge328_1⟩ := k30_openM hMe328
                                    have hv328_1 := hcc328 1 _ rfl
                                    rw [add_field _ _ 1 (by omega)] at hv328_1
                                    replace hv328_1 := Option.some.inj (hv328_1.symm.trans hx328_1)
                                    rw [hv328_1] at ge328_1
                                    have HL328_1 := Aside0.mk (show Kd.R k46 46 _ _ _ _ ((rd_T30 t305 0).f1) from ge328_1)
                                    clear hv328_1 ge328_1
                                    clear hcc328 hce328
                                    have qi328 : (0 < t305.length) = True := eq_true (by omega)
                                    (try rw [show ((0 : Int)).toNat = 0 from rfl] at hx328_0)
                                    (try rw [show 0 * 2 = 0 from rfl] at hx328_0)
                                    (try rw [Addr.add_zero'] at hx328_0)
                                    (try rw [show ((0 : Int)).toNat = 0 from rfl] at hx328_1)
                                    (try rw [show 0 * 2 = 0 from rfl] at hx328_1)
                                    (try rw [Addr.add_zero'] at hx328_1)
                                    have HR328_1 := Aside0.mk hi328_1
                                    have HC328_1 := Aside0.mk hl328_1
                                    clear hi328_1 hl328_1
                                    replace p328 := eq_true p328
                                    replace q328 := eq_true q328
                                    have ea_ := Option.some.inj (hx327_1.symm.trans hx328_1)
                                    injection ea_ with ea_ en_ ec_
                                    subst ea_
                                    subst ec_
                                    clear en_
                                    go_wp2_with (first | (go_at_call 20; (with_reducible refine (laws_caTerm.calls k2 _ _ ((rd_T30 t305 0).f1) _ _ t281 false _ ?side1 ?side2 ?side3 ?side4 A79.out).mono ?_); (case side1 => repeat (first | exact (by repeat (first | (with_reducible exact HR328_1.out) | (with_reducible refine Kd.C_alloc ?_ _) | (with_reducible refine Kd.C_drewN ?_ _) | (with_reducible refine Kd.C_drew ?_) | exact HR328_1.out)) | (with_reducible refine Kd.C_alloc ?_ _) | (with_reducible refine Kd.C_drewN ?_ _) | (with_reducible refine Kd.C_drew ?_))); (case side2 => exact HC328_1.out); (case side3 => repeat (first | exact (Kd.R_reads' HO_3.out).2.2 | (with_reducible refine Kd.C_alloc ?_ _) | (with_reducible refine Kd.C_drewN ?_ _) | (with_reducible refine Kd.C_drew ?_))); (case side4 => exact (Kd.R_reads' HO_3.out).2.1); rintro e w' ⟨rfl, ⟨nd, rfl⟩⟩))
                                    go_meet
                                    case rel => exact ⟨_, (false), (by first | rfl | (simp; done) | (simp [*]; done)), H', ⟨by have := HK1.out; have := HK2.out; first | omega | exact Nat.le_refl _⟩, ⟨by repeat (first | (with_reducible first | exact HB.out | apply below_alloc | apply pw_below_drewN | apply below_drew1) | exact HB.out)⟩⟩
                                · rw [if_neg c78] at H
                                  have c78b0 : (((rd_T30 t305 0).f0) == x7_1) = false := beq_eq_false_iff_ne.mpr c78
                                  have c78b1 : (((rd_T30 t305 0).f0) != x7_1) = true := bne_iff_ne.mpr c78
                                  have H' := Aside0.mk H
                                  clear H
                                  obtain ⟨Ao88, co88, eo88⟩ := Kd.S_slice HO308.out
                                  subst eo88
                                  have p327 : 0 ≤ (0 : Int) := (by omega)
                                  have q327 : 0 < (t305.length : Int) := of_decide_eq_true (by first | (with_reducible assumption) | assumption)
                                  obtain ⟨ad327, A327_1, c327_1, e327, hx327_0, hx327_1, hl327_1, hi327_1⟩ := at_T30 (Kd.S_reads' HO308.out).2.2 0 p327 q327
                                  cases e327
                                  obtain ⟨ce327, hce327, hMe327, hcc327⟩ := Kd.S_get HO308.out z30 0 p327 (by first | exact q327 | exact of_decide_eq_true (by first | (with_reducible assumption) | assumption) | (have e_ := (Kd.S_reads' HO308.out).1; omega))
                                  obtain ⟨ve327_1, rfl, ge327_1⟩ := k30_openM hMe327
                                  have hv327_1 := hcc327 1 _ rfl
                                  rw [add_field _ _ 1 (by omega)] at hv327_1
                                  replace hv327_1 := Option.some.inj (hv327_1.symm.trans hx327_1)
                                  rw [hv327_1] at ge327_1
                                  have HL327_1 := Aside0.mk (show Kd.R k46 46 _ _ _ _ ((rd_T30 t305 0).f1) from ge327_1)
                                  clear hv327_1 ge327_1
                                  clear hcc327 hce327
                                  have qi327 : (0 < t305.length) = True := eq_true (by omega)
                                  (try rw [show ((0 : Int)).toNat = 0 from rfl] at hx327_0)
                                  (try rw [show 0 * 2 = 0 from rfl] at hx327_0)
                                  (try rw [Addr.add_zero'] at hx327_0)
                                  (try rw [show ((0 : Int)).toNat = 0 from rfl] at hx327_1)
                                  (try rw [show 0 * 2 = 0 from rfl] at hx327_1)
                                  (try rw [Addr.add_zero'] at hx327_1)
                                  have HR327_1 := Aside0.mk hi327_1
                                  have HC327_1 := Aside0.mk hl327_1
                                  clear hi327_1 hl327_1
                                  replace p327 := eq_true p327
                                  replace q327 := eq_true q327
                                  go_wp2
                                  go_meet
                                  case rel => exact ⟨_, (false), (by first | rfl | (simp; done) | (simp [*]; done)), H', ⟨by have := HK1.out; have := HK2.out; first | omega | exact Nat.le_refl _⟩, ⟨by repeat (first | (with_reducible first | exact HB.out | apply below_alloc | apply pw_below_drewN | apply below_drew1) | exact HB.out)⟩⟩
                              · rw [if_neg c77] at H
                                exact absurd H (by simp)
                            · rw [if_neg c76] at H
                              have c76b0 : ((t305.length : Int) == 1) = false := beq_eq_false_iff_ne.mpr c76
                              have c76b1 : ((t305.length : Int) != 1) = true := bne_iff_ne.mpr c76
                              have H' := Aside0.mk H
                              clear H
                              obtain ⟨Ao89, co89, eo89⟩ := Kd.S_slice HO308.out
                              subst eo89
                              go_wp2
                              go_meet
                              case rel => exact ⟨_, (false), (by first | rfl | (simp; done) | (simp [*]; done)), H', ⟨by have := HK1.out; have := HK2.out; first | omega | exact Nat.le_refl _⟩, ⟨by repeat (first | (with_reducible first | exact HB.out | apply below_alloc | apply pw_below_drewN | apply below_drew1) | exact HB.out)⟩⟩
                          · rw [if_neg c75] at H
                            have c75b0 : (t306 == 1) = false := beq_eq_false_iff_ne.mpr c75
                            have c75b1 : (t306 != 1) = true := bne_iff_ne.mpr c75
                            (first | rw [c75b0] | (simp only [i64_w, i32_w]; rw [c75b0]) | skip)
                            have H' := Aside0.mk H
                            clear H
                            go_wp2
                            go_meet
                            case rel => exact ⟨_, (false), (by first | rfl | (simp; done) | (simp [*]; done)), H', ⟨by have := HK1.out; have := HK2.out; first | omega | exact Nat.le_refl _⟩, ⟨by repeat (first | (with_reducible first | exact HB.out | apply below_alloc | apply pw_below_drewN | apply below_drew1) | exact HB.out)⟩⟩
                        case rest =>
                          clear HC56
                          try clear c1
                          try clear c2
                          try clear c2b0
                          try clear c2b1
                          try clear p2
                          try clear q2
                          try clear hx2
                          try clear c3
                          try clear p3
                          try clear q3
                          try clear hx3
                          try clear qi3
                          try clear c4
                          try clear c5
                          try clear c6
                          try clear p6
                          try clear c7
                          try clear c8
                          try clear c11
                          try clear c11b0
                          try clear c12
                          try clear c12b0
                          try clear c17
                          try clear c17b0
                          try clear c18
                          try clear c18b0
                          try clear c19
                          try clear c19b0
                          try clear c19b1
                          try clear c22
                          try clear c25
                          try clear c25b0
                          try clear c25b1
                          try clear c26
                          try clear c26b0
                          try clear c26b1
                          try clear c27
                          try clear c27b0
                          try clear c27b1
                          try clear c29
                          try clear p29
                          try clear q29
                          try clear hx29
                          try clear c30
                          try clear c31
                          try clear c32
                          try clear p32
                          try clear q32
                          try clear hx32
                          try clear qi32
                          try clear c47
                          try clear c47b0
                          try clear c47b1
                          try clear c48
                          try clear c48b0
                          try clear c48b1
                          try clear c49
                          try clear c49b0
                          try clear c49b1
                          try clear c50
                          try clear c50b0
                          try clear c50b1
                          try clear p64
                          try clear c75
                          try clear c75b0
                          try clear c75b1
                          try clear c76
                          try clear c76b0
                          try clear c76b1
                          try clear c77
                          try clear c77b0
                          try clear c77b1
                          try clear c78
                          try clear c78b0
                          try clear c78b1
                          try clear c80
                          try clear c81
                          try clear c81b0
                          try clear c81b1
                          try clear c82
                          try clear c82b0
                          try clear c82b1
                          try clear hx296_0
                          try clear hx297_0
                          try clear hx326_0
                          try clear hx326_1
                          try clear hx326_2
                          try clear hx327_0
                          try clear hx327_1
                          try clear hx328_0
                          try clear hx328_1
                          try clear p2
                          try clear p29
                          try clear p296
                          try clear p297
                          try clear p3
                          try clear p32
                          try clear p326
                          try clear p327
                          try clear p328
                          try clear p6
                          try clear q2
                          try clear q29
                          try clear q296
                          try clear q297
                          try clear q3
                          try clear q32
                          try clear q326
                          try clear q327
                          try clear q328
                          obtain ⟨kq, x2_55, rfl, HA, HJ55, HB⟩ := hcut
                          cases kq with
                          | zero => exact absurd HA.out (by simp [laws_FnSubVar.j3])
                          | succ kj55 =>
                            have H := HA.out
                            clear HA
                            simp only [laws_FnSubVar.j3] at H
                            obtain rfl := Option.some.inj H
                            go_wp2
                            go_ret
                            exact ⟨by first | rfl | (simp [errW_none, errW_some] <;> rfl) | (simp [*, errW_none, errW_some] <;> rfl), by repeat (first | (with_reducible first | exact HB.out | apply below_alloc | apply pw_below_drewN | apply below_drew1) | exact HB.out)⟩
                    · rw [if_neg c26] at H
                      exact absurd H (by simp)
                  · rw [if_neg c25] at H
                    have c25b0 : ((t281.length : Int) == 1) = false := beq_eq_false_iff_ne.mpr c25
                    have c25b1 : ((t281.length : Int) != 1) = true := bne_iff_ne.mpr c25
                    have HC90 := Aside0.mk H
                    clear H
                    go_upto_region 25 with (first | ((with_reducible refine gate_dst (N := 69) rfl ?_); (try (refine gate_guard (by rfl) ?_; dsimp only)); refine Kd.R_lit k46 _ 46 ?hg (N := 69) ?hd (xs := ([(⟨1, x7_1, (⟨#[]⟩ : ByteArray)⟩ : S46)] : List (S46))) (inner := [.int .i64 1, .int .i64 x7_1, .string (⟨#[]⟩ : ByteArray)]) (ok := fun _ => True) (okp := fun _ => True) ?hr ?hp (fun _ hk => hk) trivial (Below.refl _ _) (Nat.le_refl _) (by simp) ?_; (case hd => rfl); (case hg => rfl); (case hr => first | (go_simp; done) | (go_simp; rfl)); (case hp => exact (Reps.c3 (show Kd.M k46 _ _ _ (⟨1, x7_1, (⟨#[]⟩ : ByteArray)⟩ : S46) [.int .i64 1, .int .i64 x7_1, .string (⟨#[]⟩ : ByteArray)] from (k46_mkM _ _ _ (⟨1, x7_1, (⟨#[]⟩ : ByteArray)⟩ : S46) )) (Reps.none _ _))); intro v300 w91 ho92 hb hg_ hnew_; clear hg_ hnew_; (first | rw [← Ny299.out] at ho92 | (simp only [Int.reduceToNat] at ho92; rw [← Ny299.out] at ho92)); have n0_ := Aside0.mk (Kd.R_elder' (by (with_reducible repeat (first | apply Kd.R_alloc | apply Kd.R_drewN | apply Kd.R_drew)); exact HO_3.out) (Kd.R_base ho92) hb); have n1_ := Aside0.mk (Kd.R_below (by (with_reducible repeat (first | apply Kd.R_alloc | apply Kd.R_drewN | apply Kd.R_drew)); exact HO_6.out) hb); have n2_ := Aside0.mk (Kd.R_lower (Kd.R_new' ho92 (Kd.R_lt (by (with_reducible repeat (first | apply Kd.R_alloc | apply Kd.R_drewN | apply Kd.R_drew)); exact HO_3.out))) (below_size (by repeat (first | (with_reducible first | exact HB.out | apply below_alloc | apply pw_below_drewN | apply below_drew1) | exact HB.out)))); have n3_ := Aside0.mk (below_step (by repeat (first | (with_reducible first | exact HB.out | apply below_alloc | apply pw_below_drewN | apply below_drew1) | exact HB.out)) hb); clear HO_3; clear HO_6; clear HB; have HO_3 := n0_; have HO_6 := n1_; have HO301 := n2_; have HB := n3_; clear n0_ n1_ n2_ n3_; clear hb ho92) | ((with_reducible refine gate_dst (N := 71) rfl ?_); (try (refine gate_guard (by rfl) ?_; dsimp only)); refine Kd.S_lit k30 _ 30 ?hg (N := 71) ?hd (xs := ([] : List (S30))) (inner := []) (ok := fun _ => True) (okp := fun _ => True) ?hr ?hp (fun _ hk => hk) trivial (Below.refl _ _) (Nat.le_refl _) (by simp) ?_; (case hd => rfl); (case hg => rfl); (case hr => first | (go_simp; done) | (go_simp; rfl)); (case hp => exact (Reps.none _ _)); intro v303 w93 ho94 hb hg_ hnew_; clear hg_ hnew_; (first | rw [← Ny302.out] at ho94 | (simp only [Int.reduceToNat] at ho94; rw [← Ny302.out] at ho94)); have n0_ := Aside0.mk (Kd.R_below (by (with_reducible repeat (first | apply Kd.R_alloc | apply Kd.R_drewN | apply Kd.R_drew)); exact HO_3.out) hb); have n1_ := Aside0.mk (Kd.R_below (by (with_reducible repeat (first | apply Kd.R_alloc | apply Kd.R_drewN | apply Kd.R_drew)); exact HO_6.out) hb); have n2_ := Aside0.mk (Kd.R_below (by (with_reducible repeat (first | apply Kd.R_alloc | apply Kd.R_drewN | apply Kd.R_drew)); exact HO301.out) hb); have n3_ := Aside0.mk (Kd.S_lower (Kd.S_new' (Kd.S_new' ho94 (Kd.R_lt (by (with_reducible repeat (first | apply Kd.R_alloc | apply Kd.R_drewN | apply Kd.R_drew)); exact HO_3.out))) (Kd.R_lt (by (with_reducible repeat (first | apply Kd.R_alloc | apply Kd.R_drewN | apply Kd.R_drew)); exact HO301.out))) (below_size (by repeat (first | (with_reducible first | exact HB.out | apply below_alloc | apply pw_below_drewN | apply below_drew1) | exact HB.out)))); have n4_ := Aside0.mk (below_step (by repeat (first | (with_reducible first | exact HB.out | apply below_alloc | apply pw_below_drewN | apply below_drew1) | exact HB.out)) hb); clear HO_3; clear HO_6; clear HO301; clear HB; have HO_3 := n0_; have HO_6 := n1_; have HO301 := n2_; have HO304 := n3_; have HB := n4_; clear n0_ n1_ n2_ n3_ n4_; clear hb ho94; obtain ⟨Ao95, co95, eo95⟩ := Kd.S_slice HO304.out; subst eo95; obtain ⟨Ao96, co96, eo96⟩ := Kd.R_slice HO301.out; subst eo96) | ((with_reducible refine gate_callee (f := 31) rfl ?_); refine goesL_ (some 74) rfl rfl Tryd.func31 (by kernel_rfl) rfl #[.slice Ao95 y302.length co95, .slice Ao96 y299.length co96, .slice Ao8 t281.length co8] rfl (by (try simp only [List.map_toArray, List.map_cons, List.map_nil]); first | done | rfl | (simp only [List.length_drop, List.length_take]; rfl)) ?_; (with_reducible refine (impl_SubUnify.calls k2 _ _ y302 _ _ y299 _ _ t281 t305 t306 _ ?side1 ?side2 ?side3 ?side4 ?side5 ?side6 A22.out).mono ?_); (case side1 => repeat (first | exact (Kd.S_reads' HO304.out).2.2 | (with_reducible refine Kd.C_alloc ?_ _) | (with_reducible refine Kd.C_drewN ?_ _) | (with_reducible refine Kd.C_drew ?_))); (case side2 => exact (Kd.S_reads' HO304.out).2.1); (case side3 => repeat (first | exact (Kd.R_reads' HO301.out).2.2 | (with_reducible refine Kd.C_alloc ?_ _) | (with_reducible refine Kd.C_drewN ?_ _) | (with_reducible refine Kd.C_drew ?_))); (case side4 => exact (Kd.R_reads' HO301.out).2.1); (case side5 => repeat (first | exact (Kd.R_reads' HO_3.out).2.2 | (with_reducible refine Kd.C_alloc ?_ _) | (with_reducible refine Kd.C_drewN ?_ _) | (with_reducible refine Kd.C_drew ?_))); (case side6 => exact (Kd.R_reads' HO_3.out).2.1); rintro e w97 ⟨v307, rfl, ho0, hb⟩; refine ⟨_, rfl, ?_⟩; have n0_ := Aside0.mk (Kd.R_below (by (with_reducible repeat (first | apply Kd.R_alloc | apply Kd.R_drewN | apply Kd.R_drew)); exact HO_3.out) hb); have n1_ := Aside0.mk (Kd.R_below (by (with_reducible repeat (first | apply Kd.R_alloc | apply Kd.R_drewN | apply Kd.R_drew)); exact HO_6.out) hb); have n2_ := Aside0.mk (Kd.R_below (by (with_reducible repeat (first | apply Kd.R_alloc | apply Kd.R_drewN | apply Kd.R_drew)); exact HO301.out) hb); have n3_ := Aside0.mk (Kd.S_elder' (by (with_reducible repeat (first | apply Kd.S_alloc | apply Kd.S_drewN | apply Kd.S_drew)); exact HO304.out) (Kd.S_base ho0) hb); have n4_ := Aside0.mk (Kd.S_lower (Kd.S_new' (Kd.S_new' (Kd.S_new' ho0 (Kd.R_lt (by (with_reducible repeat (first | apply Kd.R_alloc | apply Kd.R_drewN | apply Kd.R_drew)); exact HO_3.out))) (Kd.R_lt (by (with_reducible repeat (first | apply Kd.R_alloc | apply Kd.R_drewN | apply Kd.R_drew)); exact HO301.out))) (Kd.S_lt (by (with_reducible repeat (first | apply Kd.S_alloc | apply Kd.S_drewN | apply Kd.S_drew)); exact HO304.out))) (below_size (by repeat (first | (with_reducible first | exact HB.out | apply below_alloc | apply pw_below_drewN | apply below_drew1) | exact HB.out)))); have n5_ := Aside0.mk (below_step (by repeat (first | (with_reducible first | exact HB.out | apply below_alloc | apply pw_below_drewN | apply below_drew1) | exact HB.out)) hb); clear HO_3; clear HO_6; clear HO301; clear HO304; clear HB; have HO_3 := n0_; have HO_6 := n1_; have HO301 := n2_; have HO304 := n3_; have HO308 := n4_; have HB := n5_; clear n0_ n1_ n2_ n3_ n4_ n5_; (try clear hb); (try clear hb2); (try clear hk); (try clear hi); (try clear ho0)) | ((with_reducible refine gate_dst (N := 80) rfl ?_); (try (refine gate_guard (by rfl) ?_; dsimp only)); refine Kd.R_lit k46 _ 46 ?hg (N := 80) ?hd (xs := ([(⟨3, 1, (⟨#[102]⟩ : ByteArray)⟩ : S46), (⟨1, x7_1, (⟨#[]⟩ : ByteArray)⟩ : S46)] : List (S46))) (inner := [.int .i64 3, .int .i64 1, .string (⟨#[102]⟩ : ByteArray), .int .i64 1, .int .i64 x7_1, .string (⟨#[]⟩ : ByteArray)]) (ok := fun _ => True) (okp := fun _ => True) ?hr ?hp (fun _ hk => hk) trivial (Below.refl _ _) (Nat.le_refl _) (by simp) ?_; (case hd => rfl); (case hg => rfl); (case hr => first | (go_simp; done) | (go_simp; rfl)); (case hp => exact (Reps.c3 (show Kd.M k46 _ _ _ (⟨3, 1, (⟨#[102]⟩ : ByteArray)⟩ : S46) [.int .i64 3, .int .i64 1, .string (⟨#[102]⟩ : ByteArray)] from (k46_mkM _ _ _ (⟨3, 1, (⟨#[102]⟩ : ByteArray)⟩ : S46) )) (Reps.c3 (show Kd.M k46 _ _ _ (⟨1, x7_1, (⟨#[]⟩ : ByteArray)⟩ : S46) [.int .i64 1, .int .i64 x7_1, .string (⟨#[]⟩ : ByteArray)] from (k46_mkM _ _ _ (⟨1, x7_1, (⟨#[]⟩ : ByteArray)⟩ : S46) )) (Reps.none _ _)))); intro v310 w98 ho99 hb hg_ hnew_; clear hg_ hnew_; (first | rw [← Ny309.out] at ho99 | (simp only [Int.reduceToNat] at ho99; rw [← Ny309.out] at ho99)); have n0_ := Aside0.mk (Kd.R_elder' (by (with_reducible repeat (first | apply Kd.R_alloc | apply Kd.R_drewN | apply Kd.R_drew)); exact HO_3.out) (Kd.R_base ho99) hb); have n1_ := Aside0.mk (Kd.R_below (by (with_reducible repeat (first | apply Kd.R_alloc | apply Kd.R_drewN | apply Kd.R_drew)); exact HO_6.out) hb); have n2_ := Aside0.mk (Kd.R_elder' (by (with_reducible repeat (first | apply Kd.R_alloc | apply Kd.R_drewN | apply Kd.R_drew)); exact HO301.out) (Kd.R_base ho99) hb); have n3_ := Aside0.mk (Kd.S_elder' (by (with_reducible repeat (first | apply Kd.S_alloc | apply Kd.S_drewN | apply Kd.S_drew)); exact HO304.out) (Kd.R_base ho99) hb); have n4_ := Aside0.mk (Kd.S_elder' (by (with_reducible repeat (first | apply Kd.S_alloc | apply Kd.S_drewN | apply Kd.S_drew)); exact HO308.out) (Kd.R_base ho99) hb); have n5_ := Aside0.mk (Kd.R_lower (Kd.R_new' (Kd.R_new' ho99 (Kd.R_lt (by (with_reducible repeat (first | apply Kd.R_alloc | apply Kd.R_drewN | apply Kd.R_drew)); exact HO_3.out))) (Kd.R_lt (by (with_reducible repeat (first | apply Kd.R_alloc | apply Kd.R_drewN | apply Kd.R_drew)); exact HO301.out))) (below_size (by repeat (first | (with_reducible first | exact HB.out | apply below_alloc | apply pw_below_drewN | apply below_drew1) | exact HB.out)))); have n6_ := Aside0.mk (below_step (by repeat (first | (with_reducible first | exact HB.out | apply below_alloc | apply pw_below_drewN | apply below_drew1) | exact HB.out)) hb); clear HO_3; clear HO_6; clear HO301; clear HO304; clear HO308; clear HB; have HO_3 := n0_; have HO_6 := n1_; have HO301 := n2_; have HO304 := n3_; have HO308 := n4_; have HO311 := n5_; have HB := n6_; clear n0_ n1_ n2_ n3_ n4_ n5_ n6_; clear hb ho99) | ((with_reducible refine gate_dst (N := 82) rfl ?_); (try (refine gate_guard (by rfl) ?_; dsimp only)); refine Kd.S_lit k30 _ 30 ?hg (N := 82) ?hd (xs := ([] : List (S30))) (inner := []) (ok := fun _ => True) (okp := fun _ => True) ?hr ?hp (fun _ hk => hk) trivial (Below.refl _ _) (Nat.le_refl _) (by simp) ?_; (case hd => rfl); (case hg => rfl); (case hr => first | (go_simp; done) | (go_simp; rfl)); (case hp => exact (Reps.none _ _)); intro v313 w100 ho101 hb hg_ hnew_; clear hg_ hnew_; (first | rw [← Ny312.out] at ho101 | (simp only [Int.reduceToNat] at ho101; rw [← Ny312.out] at ho101)); have n0_ := Aside0.mk (Kd.R_below (by (with_reducible repeat (first | apply Kd.R_alloc | apply Kd.R_drewN | apply Kd.R_drew)); exact HO_3.out) hb); have n1_ := Aside0.mk (Kd.R_below (by (with_reducible repeat (first | apply Kd.R_alloc | apply Kd.R_drewN | apply Kd.R_drew)); exact HO_6.out) hb); have n2_ := Aside0.mk (Kd.R_below (by (with_reducible repeat (first | apply Kd.R_alloc | apply Kd.R_drewN | apply Kd.R_drew)); exact HO301.out) hb); have n3_ := Aside0.mk (Kd.S_elder' (by (with_reducible repeat (first | apply Kd.S_alloc | apply Kd.S_drewN | apply Kd.S_drew)); exact HO304.out) (Kd.S_base ho101) hb); have n4_ := Aside0.mk (Kd.S_elder' (by (with_reducible repeat (first | apply Kd.S_alloc | apply Kd.S_drewN | apply Kd.S_drew)); exact HO308.out) (Kd.S_base ho101) hb); have n5_ := Aside0.mk (Kd.R_below (by (with_reducible repeat (first | apply Kd.R_alloc | apply Kd.R_drewN | apply Kd.R_drew)); exact HO311.out) hb); have n6_ := Aside0.mk (Kd.S_lower (Kd.S_new' (Kd.S_new' (Kd.S_new' (Kd.S_new' (Kd.S_new' ho101 (Kd.R_lt (by (with_reducible repeat (first | apply Kd.R_alloc | apply Kd.R_drewN | apply Kd.R_drew)); exact HO_3.out))) (Kd.R_lt (by (with_reducible repeat (first | apply Kd.R_alloc | apply Kd.R_drewN | apply Kd.R_drew)); exact HO301.out))) (Kd.S_lt (by (with_reducible repeat (first | apply Kd.S_alloc | apply Kd.S_drewN | apply Kd.S_drew)); exact HO304.out))) (Kd.S_lt (by (with_reducible repeat (first | apply Kd.S_alloc | apply Kd.S_drewN | apply Kd.S_drew)); exact HO308.out))) (Kd.R_lt (by (with_reducible repeat (first | apply Kd.R_alloc | apply Kd.R_drewN | apply Kd.R_drew)); exact HO311.out))) (below_size (by repeat (first | (with_reducible first | exact HB.out | apply below_alloc | apply pw_below_drewN | apply below_drew1) | exact HB.out)))); have n7_ := Aside0.mk (below_step (by repeat (first | (with_reducible first | exact HB.out | apply below_alloc | apply pw_below_drewN | apply below_drew1) | exact HB.out)) hb); clear HO_3; clear HO_6; clear HO301; clear HO304; clear HO308; clear HO311; clear HB; have HO_3 := n0_; have HO_6 := n1_; have HO301 := n2_; have HO304 := n3_; have HO308 := n4_; have HO311 := n5_; have HO314 := n6_; have HB := n7_; clear n0_ n1_ n2_ n3_ n4_ n5_ n6_ n7_; clear hb ho101; obtain ⟨Ao102, co102, eo102⟩ := Kd.S_slice HO314.out; subst eo102; obtain ⟨Ao103, co103, eo103⟩ := Kd.R_slice HO311.out; subst eo103) | ((with_reducible refine gate_callee (f := 31) rfl ?_); refine goesL_ (some 85) rfl rfl Tryd.func31 (by kernel_rfl) rfl #[.slice Ao102 y312.length co102, .slice Ao96 y299.length co96, .slice Ao103 y309.length co103] rfl (by (try simp only [List.map_toArray, List.map_cons, List.map_nil]); first | done | rfl | (simp only [List.length_drop, List.length_take]; rfl)) ?_; (with_reducible refine (impl_SubUnify.calls k2 _ _ y312 _ _ y299 _ _ y309 t315 t316 _ ?side1 ?side2 ?side3 ?side4 ?side5 ?side6 A23.out).mono ?_); (case side1 => repeat (first | exact (Kd.S_reads' HO314.out).2.2 | (with_reducible refine Kd.C_alloc ?_ _) | (with_reducible refine Kd.C_drewN ?_ _) | (with_reducible refine Kd.C_drew ?_))); (case side2 => exact (Kd.S_reads' HO314.out).2.1); (case side3 => repeat (first | exact (Kd.R_reads' HO301.out).2.2 | (with_reducible refine Kd.C_alloc ?_ _) | (with_reducible refine Kd.C_drewN ?_ _) | (with_reducible refine Kd.C_drew ?_))); (case side4 => exact (Kd.R_reads' HO301.out).2.1); (case side5 => repeat (first | exact (Kd.R_reads' HO311.out).2.2 | (with_reducible refine Kd.C_alloc ?_ _) | (with_reducible refine Kd.C_drewN ?_ _) | (with_reducible refine Kd.C_drew ?_))); (case side6 => exact (Kd.R_reads' HO311.out).2.1); rintro e w104 ⟨v317, rfl, ho0, hb⟩; refine ⟨_, rfl, ?_⟩; have n0_ := Aside0.mk (Kd.R_below (by (with_reducible repeat (first | apply Kd.R_alloc | apply Kd.R_drewN | apply Kd.R_drew)); exact HO_3.out) hb); have n1_ := Aside0.mk (Kd.R_below (by (with_reducible repeat (first | apply Kd.R_alloc | apply Kd.R_drewN | apply Kd.R_drew)); exact HO_6.out) hb); have n2_ := Aside0.mk (Kd.R_below (by (with_reducible repeat (first | apply Kd.R_alloc | apply Kd.R_drewN | apply Kd.R_drew)); exact HO301.out) hb); have n3_ := Aside0.mk (Kd.S_elder' (by (with_reducible repeat (first | apply Kd.S_alloc | apply Kd.S_drewN | apply Kd.S_drew)); exact HO304.out) (Kd.S_base ho0) hb); have n4_ := Aside0.mk (Kd.S_elder' (by (with_reducible repeat (first | apply Kd.S_alloc | apply Kd.S_drewN | apply Kd.S_drew)); exact HO308.out) (Kd.S_base ho0) hb); have n5_ := Aside0.mk (Kd.R_below (by (with_reducible repeat (first | apply Kd.R_alloc | apply Kd.R_drewN | apply Kd.R_drew)); exact HO311.out) hb); have n6_ := Aside0.mk (Kd.S_elder' (by (with_reducible repeat (first | apply Kd.S_alloc | apply Kd.S_drewN | apply Kd.S_drew)); exact HO314.out) (Kd.S_base ho0) hb); have n7_ := Aside0.mk (Kd.S_lower (Kd.S_new' (Kd.S_new' (Kd.S_new' (Kd.S_new' (Kd.S_new' (Kd.S_new' ho0 (Kd.R_lt (by (with_reducible repeat (first | apply Kd.R_alloc | apply Kd.R_drewN | apply Kd.R_drew)); exact HO_3.out))) (Kd.R_lt (by (with_reducible repeat (first | apply Kd.R_alloc | apply Kd.R_drewN | apply Kd.R_drew)); exact HO301.out))) (Kd.S_lt (by (with_reducible repeat (first | apply Kd.S_alloc | apply Kd.S_drewN | apply Kd.S_drew)); exact HO304.out))) (Kd.S_lt (by (with_reducible repeat (first | apply Kd.S_alloc | apply Kd.S_drewN | apply Kd.S_drew)); exact HO308.out))) (Kd.R_lt (by (with_reducible repeat (first | apply Kd.R_alloc | apply Kd.R_drewN | apply Kd.R_drew)); exact HO311.out))) (Kd.S_lt (by (with_reducible repeat (first | apply Kd.S_alloc | apply Kd.S_drewN | apply Kd.S_drew)); exact HO314.out))) (below_size (by repeat (first | (with_reducible first | exact HB.out | apply below_alloc | apply pw_below_drewN | apply below_drew1) | exact HB.out)))); have n8_ := Aside0.mk (below_step (by repeat (first | (with_reducible first | exact HB.out | apply below_alloc | apply pw_below_drewN | apply below_drew1) | exact HB.out)) hb); clear HO_3; clear HO_6; clear HO301; clear HO304; clear HO308; clear HO311; clear HO314; clear HB; have HO_3 := n0_; have HO_6 := n1_; have HO301 := n2_; have HO304 := n3_; have HO308 := n4_; have HO311 := n5_; have HO314 := n6_; have HO318 := n7_; have HB := n8_; clear n0_ n1_ n2_ n3_ n4_ n5_ n6_ n7_ n8_; (try clear hb); (try clear hb2); (try clear hk); (try clear hi); (try clear ho0)) | ((with_reducible refine gate_dst (N := 89) rfl ?_); (try (refine gate_guard (by rfl) ?_; dsimp only)); refine Kd.S_lit k30 _ 30 ?hg (N := 89) ?hd (xs := ([] : List (S30))) (inner := []) (ok := fun _ => True) (okp := fun _ => True) ?hr ?hp (fun _ hk => hk) trivial (Below.refl _ _) (Nat.le_refl _) (by simp) ?_; (case hd => rfl); (case hg => rfl); (case hr => first | (go_simp; done) | (go_simp; rfl)); (case hp => exact (Reps.none _ _)); intro v320 w105 ho106 hb hg_ hnew_; clear hg_ hnew_; (first | rw [← Ny319.out] at ho106 | (simp only [Int.reduceToNat] at ho106; rw [← Ny319.out] at ho106)); have n0_ := Aside0.mk (Kd.R_below (by (with_reducible repeat (first | apply Kd.R_alloc | apply Kd.R_drewN | apply Kd.R_drew)); exact HO_3.out) hb); have n1_ := Aside0.mk (Kd.R_below (by (with_reducible repeat (first | apply Kd.R_alloc | apply Kd.R_drewN | apply Kd.R_drew)); exact HO_6.out) hb); have n2_ := Aside0.mk (Kd.R_below (by (with_reducible repeat (first | apply Kd.R_alloc | apply Kd.R_drewN | apply Kd.R_drew)); exact HO301.out) hb); have n3_ := Aside0.mk (Kd.S_elder' (by (with_reducible repeat (first | apply Kd.S_alloc | apply Kd.S_drewN | apply Kd.S_drew)); exact HO304.out) (Kd.S_base ho106) hb); have n4_ := Aside0.mk (Kd.S_elder' (by (with_reducible repeat (first | apply Kd.S_alloc | apply Kd.S_drewN | apply Kd.S_drew)); exact HO308.out) (Kd.S_base ho106) hb); have n5_ := Aside0.mk (Kd.R_below (by (with_reducible repeat (first | apply Kd.R_alloc | apply Kd.R_drewN | apply Kd.R_drew)); exact HO311.out) hb); have n6_ := Aside0.mk (Kd.S_elder' (by (with_reducible repeat (first | apply Kd.S_alloc | apply Kd.S_drewN | apply Kd.S_drew)); exact HO314.out) (Kd.S_base ho106) hb); have n7_ := Aside0.mk (Kd.S_elder' (by (with_reducible repeat (first | apply Kd.S_alloc | apply Kd.S_drewN | apply Kd.S_drew)); exact HO318.out) (Kd.S_base ho106) hb); have n8_ := Aside0.mk (Kd.S_lower (Kd.S_new' (Kd.S_new' (Kd.S_new' (Kd.S_new' (Kd.S_new' (Kd.S_new' (Kd.S_new' ho106 (Kd.R_lt (by (with_reducible repeat (first | apply Kd.R_alloc | apply Kd.R_drewN | apply Kd.R_drew)); exact HO_3.out))) (Kd.R_lt (by (with_reducible repeat (first | apply Kd.R_alloc | apply Kd.R_drewN | apply Kd.R_drew)); exact HO301.out))) (Kd.S_lt (by (with_reducible repeat (first | apply Kd.S_alloc | apply Kd.S_drewN | apply Kd.S_drew)); exact HO304.out))) (Kd.S_lt (by (with_reducible repeat (first | apply Kd.S_alloc | apply Kd.S_drewN | apply Kd.S_drew)); exact HO308.out))) (Kd.R_lt (by (with_reducible repeat (first | apply Kd.R_alloc | apply Kd.R_drewN | apply Kd.R_drew)); exact HO311.out))) (Kd.S_lt (by (with_reducible repeat (first | apply Kd.S_alloc | apply Kd.S_drewN | apply Kd.S_drew)); exact HO314.out))) (Kd.S_lt (by (with_reducible repeat (first | apply Kd.S_alloc | apply Kd.S_drewN | apply Kd.S_drew)); exact HO318.out))) (below_size (by repeat (first | (with_reducible first | exact HB.out | apply below_alloc | apply pw_below_drewN | apply below_drew1) | exact HB.out)))); have n9_ := Aside0.mk (below_step (by repeat (first | (with_reducible first | exact HB.out | apply below_alloc | apply pw_below_drewN | apply below_drew1) | exact HB.out)) hb); clear HO_3; clear HO_6; clear HO301; clear HO304; clear HO308; clear HO311; clear HO314; clear HO318; clear HB; have HO_3 := n0_; have HO_6 := n1_; have HO301 := n2_; have HO304 := n3_; have HO308 := n4_; have HO311 := n5_; have HO314 := n6_; have HO318 := n7_; have HO321 := n8_; have HB := n9_; clear n0_ n1_ n2_ n3_ n4_ n5_ n6_ n7_ n8_ n9_; clear hb ho106; obtain ⟨Ao107, co107, eo107⟩ := Kd.S_slice HO321.out; subst eo107) | ((with_reducible refine gate_callee (f := 31) rfl ?_); refine goesL_ (some 92) rfl rfl Tryd.func31 (by kernel_rfl) rfl #[.slice Ao107 y319.length co107, .slice Ao96 y299.length co96, .slice Ao96 y299.length co96] rfl (by (try simp only [List.map_toArray, List.map_cons, List.map_nil]); first | done | rfl | (simp only [List.length_drop, List.length_take]; rfl)) ?_; (with_reducible refine (impl_SubUnify.calls k2 _ _ y319 _ _ y299 _ _ y299 t322 t323 _ ?side1 ?side2 ?side3 ?side4 ?side5 ?side6 A24.out).mono ?_); (case side1 => repeat (first | exact (Kd.S_reads' HO321.out).2.2 | (with_reducible refine Kd.C_alloc ?_ _) | (with_reducible refine Kd.C_drewN ?_ _) | (with_reducible refine Kd.C_drew ?_))); (case side2 => exact (Kd.S_reads' HO321.out).2.1); (case side3 => repeat (first | exact (Kd.R_reads' HO301.out).2.2 | (with_reducible refine Kd.C_alloc ?_ _) | (with_reducible refine Kd.C_drewN ?_ _) | (with_reducible refine Kd.C_drew ?_))); (case side4 => exact (Kd.R_reads' HO301.out).2.1); (case side5 => repeat (first | exact (Kd.R_reads' HO301.out).2.2 | (with_reducible refine Kd.C_alloc ?_ _) | (with_reducible refine Kd.C_drewN ?_ _) | (with_reducible refine Kd.C_drew ?_))); (case side6 => exact (Kd.R_reads' HO301.out).2.1); rintro e w108 ⟨v324, rfl, ho0, hb⟩; refine ⟨_, rfl, ?_⟩; have n0_ := Aside0.mk (Kd.R_below (by (with_reducible repeat (first | apply Kd.R_alloc | apply Kd.R_drewN | apply Kd.R_drew)); exact HO_3.out) hb); have n1_ := Aside0.mk (Kd.R_below (by (with_reducible repeat (first | apply Kd.R_alloc | apply Kd.R_drewN | apply Kd.R_drew)); exact HO_6.out) hb); have n2_ := Aside0.mk (Kd.R_below (by (with_reducible repeat (first | apply Kd.R_alloc | apply Kd.R_drewN | apply Kd.R_drew)); exact HO301.out) hb); have n3_ := Aside0.mk (Kd.S_elder' (by (with_reducible repeat (first | apply Kd.S_alloc | apply Kd.S_drewN | apply Kd.S_drew)); exact HO304.out) (Kd.S_base ho0) hb); have n4_ := Aside0.mk (Kd.S_elder' (by (with_reducible repeat (first | apply Kd.S_alloc | apply Kd.S_drewN | apply Kd.S_drew)); exact HO308.out) (Kd.S_base ho0) hb); have n5_ := Aside0.mk (Kd.R_below (by (with_reducible repeat (first | apply Kd.R_alloc | apply Kd.R_drewN | apply Kd.R_drew)); exact HO311.out) hb); have n6_ := Aside0.mk (Kd.S_elder' (by (with_reducible repeat (first | apply Kd.S_alloc | apply Kd.S_drewN | apply Kd.S_drew)); exact HO314.out) (Kd.S_base ho0) hb); have n7_ := Aside0.mk (Kd.S_elder' (by (with_reducible repeat (first | apply Kd.S_alloc | apply Kd.S_drewN | apply Kd.S_drew)); exact HO318.out) (Kd.S_base ho0) hb); have n8_ := Aside0.mk (Kd.S_elder' (by (with_reducible repeat (first | apply Kd.S_alloc | apply Kd.S_drewN | apply Kd.S_drew)); exact HO321.out) (Kd.S_base ho0) hb); have n9_ := Aside0.mk (Kd.S_lower (Kd.S_new' (Kd.S_new' (Kd.S_new' (Kd.S_new' (Kd.S_new' (Kd.S_new' (Kd.S_new' (Kd.S_new' ho0 (Kd.R_lt (by (with_reducible repeat (first | apply Kd.R_alloc | apply Kd.R_drewN | apply Kd.R_drew)); exact HO_3.out))) (Kd.R_lt (by (with_reducible repeat (first | apply Kd.R_alloc | apply Kd.R_drewN | apply Kd.R_drew)); exact HO301.out))) (Kd.S_lt (by (with_reducible repeat (first | apply Kd.S_alloc | apply Kd.S_drewN | apply Kd.S_drew)); exact HO304.out))) (Kd.S_lt (by (with_reducible repeat (first | apply Kd.S_alloc | apply Kd.S_drewN | apply Kd.S_drew)); exact HO308.out))) (Kd.R_lt (by (with_reducible repeat (first | apply Kd.R_alloc | apply Kd.R_drewN | apply Kd.R_drew)); exact HO311.out))) (Kd.S_lt (by (with_reducible repeat (first | apply Kd.S_alloc | apply Kd.S_drewN | apply Kd.S_drew)); exact HO314.out))) (Kd.S_lt (by (with_reducible repeat (first | apply Kd.S_alloc | apply Kd.S_drewN | apply Kd.S_drew)); exact HO318.out))) (Kd.S_lt (by (with_reducible repeat (first | apply Kd.S_alloc | apply Kd.S_drewN | apply Kd.S_drew)); exact HO321.out))) (below_size (by repeat (first | (with_reducible first | exact HB.out | apply below_alloc | apply pw_below_drewN | apply below_drew1) | exact HB.out)))); have n10_ := Aside0.mk (below_step (by repeat (first | (with_reducible first | exact HB.out | apply below_alloc | apply pw_below_drewN | apply below_drew1) | exact HB.out)) hb); clear HO_3; clear HO_6; clear HO301; clear HO304; clear HO308; clear HO311; clear HO314; clear HO318; clear HO321; clear HB; have HO_3 := n0_; have HO_6 := n1_; have HO301 := n2_; have HO304 := n3_; have HO308 := n4_; have HO311 := n5_; have HO314 := n6_; have HO318 := n7_; have HO321 := n8_; have HO325 := n9_; have HB := n10_; clear n0_ n1_ n2_ n3_ n4_ n5_ n6_ n7_ n8_ n9_ n10_; (try clear hb); (try clear hb2); (try clear hk); (try clear hi); (try clear ho0)))
                    (try simp only [Act.put, List.setIfInBounds_toArray, List.set_cons_zero, List.set_cons_succ])
                    go_cut [2] (fun v2 wc => ∃ (kq : Nat) (x2_89 : Bool), v2 = .bool x2_89 ∧ Aside0 (laws_FnSubVar.j4 kq x2_89 = some r) ∧ Aside0 (kq ≤ k2) ∧ Aside0 (Below w.heap.size w wc))
                    case first =>
                      have H := HC90.out
                      clear HC90
                      by_cases c109 : t306 = 1
                      · rw [if_pos c109] at H
                        have c109b0 : (t306 == 1) = true := beq_iff_eq.mpr c109
                        have c109b1 : (t306 != 1) = false := bne_eq_false_iff_eq.mpr c109
                        clear c109
                        (first | rw [c109b0] | (simp only [i64_w, i32_w]; rw [c109b0]) | skip)
                        by_cases c110 : (t305.length : Int) = 1
                        · rw [if_pos c110] at H
                          have c110b0 : ((t305.length : Int) == 1) = true := beq_iff_eq.mpr c110
                          have c110b1 : ((t305.length : Int) != 1) = false := bne_eq_false_iff_eq.mpr c110
                          clear c110
                          by_cases c111 : 0 < (t305.length : Int)
                          · rw [if_pos c111] at H
                            have c111b0 : decide (0 < (t305.length : Int)) = true := decide_eq_true c111
                            have c111b1 : decide (0 < t305.length) = true := decide_eq_true (by omega)
                            clear c111
                            by_cases c112 : ((rd_T30 t305 0).f0) = x7_1
                            · rw [if_pos c112] at H
                              have c112b0 : (((rd_T30 t305 0).f0) == x7_1) = true := beq_iff_eq.mpr c112
                              have c112b1 : (((rd_T30 t305 0).f0) != x7_1) = false := bne_eq_false_iff_eq.mpr c112
                              clear c112
                              replace H := Option.bind_eq_some_iff.mp H
                              obtain ⟨t332, A1130, H⟩ := H
                              replace H : (if t332 = true then (if t316 = 2 then (if t323 = 1 then (laws_FnSubVar.j4 k2 ((t322.length : Int) == 0)) else (laws_FnSubVar.j4 k2 false)) else (laws_FnSubVar.j4 k2 false)) else (laws_FnSubVar.j4 k2 false)) = some r := H
                              have A113 := Aside0.mk A1130
                              clear A1130
                              by_cases c114 : t332 = true
                              · subst c114
                                have H1 : (if t316 = 2 then (if t323 = 1 then (laws_FnSubVar.j4 k2 ((t322.length : Int) == 0)) else (laws_FnSubVar.j4 k2 false)) else (laws_FnSubVar.j4 k2 false)) = some r := by rw [if_pos rfl] at H; exact H
                                clear H
                                have H := H1
                                clear H1
                                by_cases c115 : t316 = 2
                                · rw [if_pos c115] at H
                                  have c115b0 : (t316 == 2) = true := beq_iff_eq.mpr c115
                                  have c115b1 : (t316 != 2) = false := bne_eq_false_iff_eq.mpr c115
                                  clear c115
                                  by_cases c116 : t323 = 1
                                  · rw [if_pos c116] at H
                                    have c116b0 : (t323 == 1) = true := beq_iff_eq.mpr c116
                                    have c116b1 : (t323 != 1) = false := bne_eq_false_iff_eq.mpr c116
                                    clear c116
                                    have H' := Aside0.mk H
                                    clear H
                                    obtain ⟨Ao117, co117, eo117⟩ := Kd.S_slice HO308.out
                                    subst eo117
                                    have p330 : 0 ≤ (0 : Int) := (by omega)
                                    have q330 : 0 < (t305.length : Int) := of_decide_eq_true (by first | (with_reducible assumption) | assumption)
                                    obtain ⟨ad330, A330_1, c330_1, e330, hx330_0, hx330_1, hl330_1, hi330_1⟩ := at_T30 (Kd.S_reads' HO308.out).2.2 0 p330 q330
                                    cases e330
                                    obtain ⟨ce330, hce330, hMe330, hcc330⟩ := Kd.S_get HO308.out z30 0 p330 (by first | exact q330 | exact of_decide_eq_true (by first | (with_reducible assumption) | assumption) | (have e_ := (Kd.S_reads' HO308.out).1; omega))
                                    obtain ⟨ve330_1, rfl, ge330_1⟩ := k30_openM hMe330
                                    have hv330_1 := hcc330 1 _ rfl
                                    rw [add_field _ _ 1 (by omega)] at hv330_1
                                    replace hv330_1 := Option.some.inj (hv330_1.symm.trans hx330_1)
                                    rw [hv330_1] at ge330_1
                                    have HL330_1 := Aside0.mk (show Kd.R k46 46 _ _ _ _ ((rd_T30 t305 0).f1) from ge330_1)
                                    clear hv330_1 ge330_1
                                    clear hcc330 hce330
                                    have qi330 : (0 < t305.length) = True := eq_true (by omega)
                                    (try rw [show ((0 : Int)).toNat = 0 from rfl] at hx330_0)
                                    (try rw [show 0 * 2 = 0 from rfl] at hx330_0)
                                    (try rw [Addr.add_zero'] at hx330_0)
                                    (try rw [show ((0 : Int)).toNat = 0 from rfl] at hx330_1)
                                    (try rw [show 0 * 2 = 0 from rfl] at hx330_1)
                                    (try rw [Addr.add_zero'] at hx330_1)
                                    have HR330_1 := Aside0.mk hi330_1
                                    have HC330_1 := Aside0.mk hl330_1
                                    clear hi330_1 hl330_1
                                    replace p330 := eq_true p330
                                    replace q330 := eq_true q330
                                    have p331 : 0 ≤ (0 : Int) := (by omega)
                                    have q331 : 0 < (t305.length : Int) := of_decide_eq_true (by first | (with_reducible assumption) | assumption)
                                    obtain ⟨ad331, A331_1, c331_1, e331, hx331_0, hx331_1, hl331_1, hi331_1⟩ := at_T30 (Kd.S_reads' HO308.out).2.2 0 p331 q331
                                    obtain rfl : ad330 = ad331 := (by injection e331)
                                    obtain ⟨ce331, hce331, hMe331, hcc331⟩ := Kd.S_get HO308.out z30 0 p331 (by first | exact q331 | exact of_decide_eq_true (by first | (with_reducible assumption) | assumption) | (have e_ := (Kd.S_reads' HO308.out).1; omega))
                                    obtain ⟨ve331_1, rfl, ge331_1⟩ := k30_openM hMe331
                                    have hv331_1 := hcc331 1 _ rfl
                                    rw [add_field _ _ 1 (by omega)] at hv331_1
                                    replace hv331_1 := Option.some.inj (hv331_1.symm.trans hx331_1)
                                    rw [hv331_1] at ge331_1
                                    have HL331_1 := Aside0.mk (show Kd.R k46 46 _ _ _ _ ((rd_T30 t305 0).f1) from ge331_1)
                                    clear hv331_1 ge331_1
                                    clear hcc331 hce331
                                    have qi331 : (0 < t305.length) = True := eq_true (by omega)
                                    (try rw [show ((0 : Int)).toNat = 0 from rfl] at hx331_0)
                                    (try rw [show 0 * 2 = 0 from rfl] at hx331_0)
                                    (try rw [Addr.add_zero'] at hx331_0)
                                    (try rw [show ((0 : Int)).toNat = 0 from rfl] at hx331_1)
                                    (try rw [show 0 * 2 = 0 from rfl] at hx331_1)
                                    (try rw [Addr.add_zero'] at hx331_1)
                                    have HR331_1 := Aside0.mk hi331_1
                                    have HC331_1 := Aside0.mk hl331_1
                                    clear hi331_1 hl331_1
                                    replace p331 := eq_true p331
                                    replace q331 := eq_true q331
                                    have ea_ := Option.some.inj (hx330_1.symm.trans hx331_1)
                                    injection ea_ with ea_ en_ ec_
                                    subst ea_
                                    subst ec_
                                    clear en_
                                    go_wp2_with (first | (go_at_call 20; (with_reducible refine (laws_caTerm.calls k2 _ _ ((rd_T30 t305 0).f1) _ _ t281 true _ ?side1 ?side2 ?side3 ?side4 A113.out).mono ?_); (case side1 => repeat (first | exact (by repeat (first | (with_reducible exact HR331_1.out) | (with_reducible refine Kd.C_alloc ?_ _) | (with_reducible refine Kd.C_drewN ?_ _) | (with_reducible refine Kd.C_drew ?_) | exact HR331_1.out)) | (with_reducible refine Kd.C_alloc ?_ _) | (with_reducible refine Kd.C_drewN ?_ _) | (with_reducible refine Kd.C_drew ?_))); (case side2 => exact HC331_1.out); (case side3 => repeat (first | exact (Kd.R_reads' HO_3.out).2.2 | (with_reducible refine Kd.C_alloc ?_ _) | (with_reducible refine Kd.C_drewN ?_ _) | (with_reducible refine Kd.C_drew ?_))); (case side4 => exact (Kd.R_reads' HO_3.out).2.1); rintro e w' ⟨rfl, ⟨nd, rfl⟩⟩; obtain ⟨Ao118, co118, eo118⟩ := Kd.S_slice HO325.out; subst eo118))
                                    go_meet
                                    case rel => exact ⟨_, (((t322.length : Int) == 0)), (by first | rfl | (simp; done) | (simp [*]; done)), H', ⟨by have := HK1.out; have := HK2.out; first | omega | exact Nat.le_refl _⟩, ⟨by repeat (first | (with_reducible first | exact HB.out | apply below_alloc | apply pw_below_drewN | apply below_drew1) | exact HB.out)⟩⟩
                                  · rw [if_neg c116] at H
                                    have c116b0 : (t323 == 1) = false := beq_eq_false_iff_ne.mpr c116
                                    have c116b1 : (t323 != 1) = true := bne_iff_ne.mpr c116
                                    have H' := Aside0.mk H
                                    clear H
                                    obtain ⟨Ao119, co119, eo119⟩ := Kd.S_slice HO308.out
                                    subst eo119
                                    have p330 : 0 ≤ (0 : Int) := (by omega)
                                    have q330 : 0 < (t305.length : Int) := of_decide_eq_true (by first | (with_reducible assumption) | assumption)
                                    obtain ⟨ad330, A330_1, c330_1, e330, hx330_0, hx330_1, hl330_1, hi330_1⟩ := at_T30 (Kd.S_reads' HO308.out).2.2 0 p330 q330
                                    cases e330
                                    obtain ⟨ce330, hce330, hMe330, hcc330⟩ := Kd.S_get HO308.out z30 0 p330 (by first | exact q330 | exact of_decide_eq_true (by first | (with_reducible assumption) | assumption) | (have e_ := (Kd.S_reads' HO308.out).1; omega))
                                    obtain ⟨ve330_1, rfl, ge330_1⟩ := k30_openM hMe330
                                    have hv330_1 := hcc330 1 _ rfl
                                    rw [add_field _ _ 1 (by omega)] at hv330_1
                                    replace hv330_1 := Option.some.inj (hv330_1.symm.trans hx330_1)
                                    rw [hv330_1] at ge330_1
                                    have HL330_1 := Aside0.mk (show Kd.R k46 46 _ _ _ _ ((rd_T30 t305 0).f1) from ge330_1)
                                    clear hv330_1 ge330_1
                                    clear hcc330 hce330
                                    have qi330 : (0 < t305.length) = True := eq_true (by omega)
                                    (try rw [show ((0 : Int)).toNat = 0 from rfl] at hx330_0)
                                    (try rw [show 0 * 2 = 0 from rfl] at hx330_0)
                                    (try rw [Addr.add_zero'] at hx330_0)
                                    (try rw [show ((0 : Int)).toNat = 0 from rfl] at hx330_1)
                                    (try rw [show 0 * 2 = 0 from rfl] at hx330_1)
                                    (try rw [Addr.add_zero'] at hx330_1)
                                    have HR330_1 := Aside0.mk hi330_1
                                    have HC330_1 := Aside0.mk hl330_1
                                    clear hi330_1 hl330_1
                                    replace p330 := eq_true p330
                                    replace q330 := eq_true q330
                                    have p331 : 0 ≤ (0 : Int) := (by omega)
                                    have q331 : 0 < (t305.length : Int) := of_decide_eq_true (by first | (with_reducible assumption) | assumption)
                                    obtain ⟨ad331, A331_1, c331_1, e331, hx331_0, hx331_1, hl331_1, hi331_1⟩ := at_T30 (Kd.S_reads' HO308.out).2.2 0 p331 q331
                                    obtain rfl : ad330 = ad331 := (by injection e331)
                                    obtain ⟨ce331, hce331, hMe331, hcc331⟩ := Kd.S_get HO308.out z30 0 p331 (by first | exact q331 | exact of_decide_eq_true (by first | (with_reducible assumption) | assumption) | (have e_ := (Kd.S_reads' HO308.out).1; omega))
                                    obtain ⟨ve331_1, rfl, ge331_1⟩ := k30_openM hMe331
                                    have hv331_1 := hcc331 1 _ rfl
                                    rw [add_field _ _ 1 (by omega)] at hv331_1
                                    replace hv331_1 := Option.some.inj (hv331_1.symm.trans hx331_1)
                                    rw [hv331_1] at ge331_1
                                    have HL331_1 := Aside0.mk (show Kd.R k46 46 _ _ _ _ ((rd_T30 t305 0).f1) from ge331_1)
                                    clear hv331_1 ge331_1
                                    clear hcc331 hce331
                                    have qi331 : (0 < t305.length) = True := eq_true (by omega)
                                    (try rw [show ((0 : Int)).toNat = 0 from rfl] at hx331_0)
                                    (try rw [show 0 * 2 = 0 from rfl] at hx331_0)
                                    (try rw [Addr.add_zero'] at hx331_0)
                                    (try rw [show ((0 : Int)).toNat = 0 from rfl] at hx331_1)
                                    (try rw [show 0 * 2 = 0 from rfl] at hx331_1)
                                    (try rw [Addr.add_zero'] at hx331_1)
                                    have HR331_1 := Aside0.mk hi331_1
                                    have HC331_1 := Aside0.mk hl331_1
                                    clear hi331_1 hl331_1
                                    replace p331 := eq_true p331
                                    replace q331 := eq_true q331
                                    have ea_ := Option.some.inj (hx330_1.symm.trans hx331_1)
                                    injection ea_ with ea_ en_ ec_
                                    subst ea_
                                    subst ec_
                                    clear en_
                                    go_wp2_with (first | (go_at_call 20; (with_reducible refine (laws_caTerm.calls k2 _ _ ((rd_T30 t305 0).f1) _ _ t281 true _ ?side1 ?side2 ?side3 ?side4 A113.out).mono ?_); (case side1 => repeat (first | exact (by repeat (first | (with_reducible exact HR331_1.out) | (with_reducible refine Kd.C_alloc ?_ _) | (with_reducible refine Kd.C_drewN ?_ _) | (with_reducible refine Kd.C_drew ?_) | exact HR331_1.out)) | (with_reducible refine Kd.C_alloc ?_ _) | (with_reducible refine Kd.C_drewN ?_ _) | (with_reducible refine Kd.C_drew ?_))); (case side2 => exact HC331_1.out); (case side3 => repeat (first | exact (Kd.R_reads' HO_3.out).2.2 | (with_reducible refine Kd.C_alloc ?_ _) | (with_reducible refine Kd.C_drewN ?_ _) | (with_reducible refine Kd.C_drew ?_))); (case side4 => exact (Kd.R_reads' HO_3.out).2.1); rintro e w' ⟨rfl, ⟨nd, rfl⟩⟩))
                                    go_meet
                                    case rel => exact ⟨_, (false), (by first | rfl | (simp; done) | (simp [*]; done)), H', ⟨by have := HK1.out; have := HK2.out; first | omega | exact Nat.le_refl _⟩, ⟨by repeat (first | (with_reducible first | exact HB.out | apply below_alloc | apply pw_below_drewN | apply below_drew1) | exact HB.out)⟩⟩
                                · rw [if_neg c115] at H
                                  have c115b0 : (t316 == 2) = false := beq_eq_false_iff_ne.mpr c115
                                  have c115b1 : (t316 != 2) = true := bne_iff_ne.mpr c115
                                  have H' := Aside0.mk H
                                  clear H
                                  obtain ⟨Ao120, co120, eo120⟩ := Kd.S_slice HO308.out
                                  subst eo120
                                  have p330 : 0 ≤ (0 : Int) := (by omega)
                                  have q330 : 0 < (t305.length : Int) := of_decide_eq_true (by first | (with_reducible assumption) | assumption)
                                  obtain ⟨ad330, A330_1, c330_1, e330, hx330_0, hx330_1, hl330_1, hi330_1⟩ := at_T30 (Kd.S_reads' HO308.out).2.2 0 p330 q330
                                  cases e330
                                  obtain ⟨ce330, hce330, hMe330, hcc330⟩ := Kd.S_get HO308.out z30 0 p330 (by first | exact q330 | exact of_decide_eq_true (by first | (with_reducible assumption) | assumption) | (have e_ := (Kd.S_reads' HO308.out).1; omega))
                                  obtain ⟨ve330_1, rfl, ge330_1⟩ := k30_openM hMe330
                                  have hv330_1 := hcc330 1 _ rfl
                                  rw [add_field _ _ 1 (by omega)] at hv330_1
                                  replace hv330_1 := Option.some.inj (hv330_1.symm.trans hx330_1)
                                  rw [hv330_1] at ge330_1
                                  have HL330_1 := Aside0.mk (show Kd.R k46 46 _ _ _ _ ((rd_T30 t305 0).f1) from ge330_1)
                                  clear hv330_1 ge330_1
                                  clear hcc330 hce330
                                  have qi330 : (0 < t305.length) = True := eq_true (by omega)
                                  (try rw [show ((0 : Int)).toNat = 0 from rfl] at hx330_0)
                                  (try rw [show 0 * 2 = 0 from rfl] at hx330_0)
                                  (try rw [Addr.add_zero'] at hx330_0)
                                  (try rw [show ((0 : Int)).toNat = 0 from rfl] at hx330_1)
                                  (try rw [show 0 * 2 = 0 from rfl] at hx330_1)
                                  (try rw [Addr.add_zero'] at hx330_1)
                                  have HR330_1 := Aside0.mk hi330_1
                                  have HC330_1 := Aside0.mk hl330_1
                                  clear hi330_1 hl330_1
                                  replace p330 := eq_true p330
                                  replace q330 := eq_true q330
                                  have p331 : 0 ≤ (0 : Int) := (by omega)
                                  have q331 : 0 < (t305.length : Int) := of_decide_eq_true (by first | (with_reducible assumption) | assumption)
                                  obtain ⟨ad331, A331_1, c331_1, e331, hx331_0, hx331_1, hl331_1, hi331_1⟩ := at_T30 (Kd.S_reads' HO308.out).2.2 0 p331 q331
                                  obtain rfl : ad330 = ad331 := (by injection e331)
                                  obtain ⟨ce331, hce331, hMe331, hcc331⟩ := Kd.S_get HO308.out z30 0 p331 (by first | exact q331 | exact of_decide_eq_true (by first | (with_reducible assumption) | assumption) | (have e_ := (Kd.S_reads' HO308.out).1; omega))
                                  obtain ⟨ve331_1, rfl, ge331_1⟩ := k30_openM hMe331
                                  have hv331_1 := hcc331 1 _ rfl
                                  rw [add_field _ _ 1 (by omega)] at hv331_1
                                  replace hv331_1 := Option.some.inj (hv331_1.symm.trans hx331_1)
                                  rw [hv331_1] at ge331_1
                                  have HL331_1 := Aside0.mk (show Kd.R k46 46 _ _ _ _ ((rd_T30 t305 0).f1) from ge331_1)
                                  clear hv331_1 ge331_1
                                  clear hcc331 hce331
                                  have qi331 : (0 < t305.length) = True := eq_true (by omega)
                                  (try rw [show ((0 : Int)).toNat = 0 from rfl] at hx331_0)
                                  (try rw [show 0 * 2 = 0 from rfl] at hx331_0)
                                  (try rw [Addr.add_zero'] at hx331_0)
                                  (try rw [show ((0 : Int)).toNat = 0 from rfl] at hx331_1)
                                  (try rw [show 0 * 2 = 0 from rfl] at hx331_1)
                                  (try rw [Addr.add_zero'] at hx331_1)
                                  have HR331_1 := Aside0.mk hi331_1
                                  have HC331_1 := Aside0.mk hl331_1
                                  clear hi331_1 hl331_1
                                  replace p331 := eq_true p331
                                  replace q331 := eq_true q331
                                  have ea_ := Option.some.inj (hx330_1.symm.trans hx331_1)
                                  injection ea_ with ea_ en_ ec_
                                  subst ea_
                                  subst ec_
                                  clear en_
                                  go_wp2_with (first | (go_at_call 20; (with_reducible refine (laws_caTerm.calls k2 _ _ ((rd_T30 t305 0).f1) _ _ t281 true _ ?side1 ?side2 ?side3 ?side4 A113.out).mono ?_); (case side1 => repeat (first | exact (by repeat (first | (with_reducible exact HR331_1.out) | (with_reducible refine Kd.C_alloc ?_ _) | (with_reducible refine Kd.C_drewN ?_ _) | (with_reducible refine Kd.C_drew ?_) | exact HR331_1.out)) | (with_reducible refine Kd.C_alloc ?_ _) | (with_reducible refine Kd.C_drewN ?_ _) | (with_reducible refine Kd.C_drew ?_))); (case side2 => exact HC331_1.out); (case side3 => repeat (first | exact (Kd.R_reads' HO_3.out).2.2 | (with_reducible refine Kd.C_alloc ?_ _) | (with_reducible refine Kd.C_drewN ?_ _) | (with_reducible refine Kd.C_drew ?_))); (case side4 => exact (Kd.R_reads' HO_3.out).2.1); rintro e w' ⟨rfl, ⟨nd, rfl⟩⟩))
                                  go_meet
                                  case rel => exact ⟨_, (false), (by first | rfl | (simp; done) | (simp [*]; done)), H', ⟨by have := HK1.out; have := HK2.out; first | omega | exact Nat.le_refl _⟩, ⟨by repeat (first | (with_reducible first | exact HB.out | apply below_alloc | apply pw_below_drewN | apply below_drew1) | exact HB.out)⟩⟩
                              · replace c114 := Bool.eq_false_iff.mpr c114
                                subst c114
                                have H1 : (laws_FnSubVar.j4 k2 false) = some r := by rw [if_neg (show ¬ (false = true) by decide)] at H; exact H
                                clear H
                                have H := H1
                                clear H1
                                have H' := Aside0.mk H
                                clear H
                                obtain ⟨Ao121, co121, eo121⟩ := Kd.S_slice HO308.out
                                subst eo121
                                have p330 : 0 ≤ (0 : Int) := (by omega)
                                have q330 : 0 < (t305.length : Int) := of_decide_eq_true (by first | (with_reducible assumption) | assumption)
                                obtain ⟨ad330, A330_1, c330_1, e330, hx330_0, hx330_1, hl330_1, hi330_1⟩ := at_T30 (Kd.S_reads' HO308.out).2.2 0 p330 q330
                                cases e330
                                obtain ⟨ce330, hce330, hMe330, hcc330⟩ := Kd.S_get HO308.out z30 0 p330 (by first | exact q330 | exact of_decide_eq_true (by first | (with_reducible assumption) | assumption) | (have e_ := (Kd.S_reads' HO308.out).1; omega))
                                obtain ⟨ve330_1, rfl, ge330_1⟩ := k30_openM hMe330
                                have hv330_1 := hcc330 1 _ rfl
                                rw [add_field _ _ 1 (by omega)] at hv330_1
                                replace hv330_1 := Option.some.inj (hv330_1.symm.trans hx330_1)
                                rw [hv330_1] at ge330_1
                                have HL330_1 := Aside0.mk (show Kd.R k46 46 _ _ _ _ ((rd_T30 t305 0).f1) from ge330_1)
                                clear hv330_1 ge330_1
                                clear hcc330 hce330
                                have qi330 : (0 < t305.length) = True := eq_true (by omega)
                                (try rw [show ((0 : Int)).toNat = 0 from rfl] at hx330_0)
                                (try rw [show 0 * 2 = 0 from rfl] at hx330_0)
                                (try rw [Addr.add_zero'] at hx330_0)
                                (try rw [show ((0 : Int)).toNat = 0 from rfl] at hx330_1)
                                (try rw [show 0 * 2 = 0 from rfl] at hx330_1)
                                (try rw [Addr.add_zero'] at hx330_1)
                                have HR330_1 := Aside0.mk hi330_1
                                have HC330_1 := Aside0.mk hl330_1
                                clear hi330_1 hl330_1
                                replace p330 := eq_true p330
                                replace q330 := eq_true q330
                                have p331 : 0 ≤ (0 : Int) := (by omega)
                                have q331 : 0 < (t305.length : Int) := of_decide_eq_true (by first | (with_reducible assumption) | assumption)
                                obtain ⟨ad331, A331_1, c331_1, e331, hx331_0, hx331_1, hl331_1, hi331_1⟩ := at_T30 (Kd.S_reads' HO308.out).2.2 0 p331 q331
                                obtain rfl : ad330 = ad331 := (by injection e331)
                                obtain ⟨ce331, hce331, hMe331, hcc331⟩ := Kd.S_get HO308.out z30 0 p331 (by first | exact q331 | exact of_decide_eq_true (by first | (with_reducible assumption) | assumption) | (have e_ := (Kd.S_reads' HO308.out).1; omega))
                                obtain ⟨ve331_1, rfl, ge331_1⟩ := k30_openM hMe331
                                have hv331_1 := hcc331 1 _ rfl
                                rw [add_field _ _ 1 (by omega)] at hv331_1
                                replace hv331_1 := Option.some.inj (hv331_1.symm.trans hx331_1)
                                rw [hv331_1] at ge331_1
                                have HL331_1 := Aside0.mk (show Kd.R k46 46 _ _ _ _ ((rd_T30 t305 0).f1) from ge331_1)
                                clear hv331_1 ge331_1
                                clear hcc331 hce331
                                have qi331 : (0 < t305.length) = True := eq_true (by omega)
                                (try rw [show ((0 : Int)).toNat = 0 from rfl] at hx331_0)
                                (try rw [show 0 * 2 = 0 from rfl] at hx331_0)
                                (try rw [Addr.add_zero'] at hx331_0)
                                (try rw [show ((0 : Int)).toNat = 0 from rfl] at hx331_1)
                                (try rw [show 0 * 2 = 0 from rfl] at hx331_1)
                                (try rw [Addr.add_zero'] at hx331_1)
                                have HR331_1 := Aside0.mk hi331_1
                                have HC331_1 := Aside0.mk hl331_1
                                clear hi331_1 hl331_1
                                replace p331 := eq_true p331
                                replace q331 := eq_true q331
                                have ea_ := Option.some.inj (hx330_1.symm.trans hx331_1)
                                injection ea_ with ea_ en_ ec_
                                subst ea_
                                subst ec_
                                clear en_
                                go_wp2_with (first | (go_at_call 20; (with_reducible refine (laws_caTerm.calls k2 _ _ ((rd_T30 t305 0).f1) _ _ t281 false _ ?side1 ?side2 ?side3 ?side4 A113.out).mono ?_); (case side1 => repeat (first | exact (by repeat (first | (with_reducible exact HR331_1.out) | (with_reducible refine Kd.C_alloc ?_ _) | (with_reducible refine Kd.C_drewN ?_ _) | (with_reducible refine Kd.C_drew ?_) | exact HR331_1.out)) | (with_reducible refine Kd.C_alloc ?_ _) | (with_reducible refine Kd.C_drewN ?_ _) | (with_reducible refine Kd.C_drew ?_))); (case side2 => exact HC331_1.out); (case side3 => repeat (first | exact (Kd.R_reads' HO_3.out).2.2 | (with_reducible refine Kd.C_alloc ?_ _) | (with_reducible refine Kd.C_drewN ?_ _) | (with_reducible refine Kd.C_drew ?_))); (case side4 => exact (Kd.R_reads' HO_3.out).2.1); rintro e w' ⟨rfl, ⟨nd, rfl⟩⟩))
                                go_meet
                                case rel => exact ⟨_, (false), (by first | rfl | (simp; done) | (simp [*]; done)), H', ⟨by have := HK1.out; have := HK2.out; first | omega | exact Nat.le_refl _⟩, ⟨by repeat (first | (with_reducible first | exact HB.out | apply below_alloc | apply pw_below_drewN | apply below_drew1) | exact HB.out)⟩⟩
                            · rw [if_neg c112] at H
                              have c112b0 : (((rd_T30 t305 0).f0) == x7_1) = false := beq_eq_false_iff_ne.mpr c112
                              have c112b1 : (((rd_T30 t305 0).f0) != x7_1) = true := bne_iff_ne.mpr c112
                              have H' := Aside0.mk H
                              clear H
                              obtain ⟨Ao122, co122, eo122⟩ := Kd.S_slice HO308.out
                              subst eo122
                              have p330 : 0 ≤ (0 : Int) := (by omega)
                              have q330 : 0 < (t305.length : Int) := of_decide_eq_true (by first | (with_reducible assumption) | assumption)
                              obtain ⟨ad330, A330_1, c330_1, e330, hx330_0, hx330_1, hl330_1, hi330_1⟩ := at_T30 (Kd.S_reads' HO308.out).2.2 0 p330 q330
                              cases e330
                              obtain ⟨ce330, hce330, hMe330, hcc330⟩ := Kd.S_get HO308.out z30 0 p330 (by first | exact q330 | exact of_decide_eq_true (by first | (with_reducible assumption) | assumption) | (have e_ := (Kd.S_reads' HO308.out).1; omega))
                              obtain ⟨ve330_1, rfl, ge330_1⟩ := k30_openM hMe330
                              have hv330_1 := hcc330 1 _ rfl
                              rw [add_field _ _ 1 (by omega)] at hv330_1
                              replace hv330_1 := Option.some.inj (hv330_1.symm.trans hx330_1)
                              rw [hv330_1] at ge330_1
                              have HL330_1 := Aside0.mk (show Kd.R k46 46 _ _ _ _ ((rd_T30 t305 0).f1) from ge330_1)
                              clear hv330_1 ge330_1
                              clear hcc330 hce330
                              have qi330 : (0 < t305.length) = True := eq_true (by omega)
                              (try rw [show ((0 : Int)).toNat = 0 from rfl] at hx330_0)
                              (try rw [show 0 * 2 = 0 from rfl] at hx330_0)
                              (try rw [Addr.add_zero'] at hx330_0)
                              (try rw [show ((0 : Int)).toNat = 0 from rfl] at hx330_1)
                              (try rw [show 0 * 2 = 0 from rfl] at hx330_1)
                              (try rw [Addr.add_zero'] at hx330_1)
                              have HR330_1 := Aside0.mk hi330_1
                              have HC330_1 := Aside0.mk hl330_1
                              clear hi330_1 hl330_1
                              replace p330 := eq_true p330
                              replace q330 := eq_true q330
                              go_wp2
                              go_meet
                              case rel => exact ⟨_, (false), (by first | rfl | (simp; done) | (simp [*]; done)), H', ⟨by have := HK1.out; have := HK2.out; first | omega | exact Nat.le_refl _⟩, ⟨by repeat (first | (with_reducible first | exact HB.out | apply below_alloc | apply pw_below_drewN | apply below_drew1) | exact HB.out)⟩⟩
                          · rw [if_neg c111] at H
                            exact absurd H (by simp)
                        · rw [if_neg c110] at H
                          have c110b0 : ((t305.length : Int) == 1) = false := beq_eq_false_iff_ne.mpr c110
                          have c110b1 : ((t305.length : Int) != 1) = true := bne_iff_ne.mpr c110
                          have H' := Aside0.mk H
                          clear H
                          obtain ⟨Ao123, co123, eo123⟩ := Kd.S_slice HO308.out
                          subst eo123
                          go_wp2
                          go_meet
                          case rel => exact ⟨_, (false), (by first | rfl | (simp; done) | (simp [*]; done)), H', ⟨by have := HK1.out; have := HK2.out; first | omega | exact Nat.le_refl _⟩, ⟨by repeat (first | (with_reducible first | exact HB.out | apply below_alloc | apply pw_below_drewN | apply below_drew1) | exact HB.out)⟩⟩
                      · rw [if_neg c109] at H
                        have c109b0 : (t306 == 1) = false := beq_eq_false_iff_ne.mpr c109
                        have c109b1 : (t306 != 1) = true := bne_iff_ne.mpr c109
                        (first | rw [c109b0] | (simp only [i64_w, i32_w]; rw [c109b0]) | skip)
                        have H' := Aside0.mk H
                        clear H
                        go_wp2
                        go_meet
                        case rel => exact ⟨_, (false), (by first | rfl | (simp; done) | (simp [*]; done)), H', ⟨by have := HK1.out; have := HK2.out; first | omega | exact Nat.le_refl _⟩, ⟨by repeat (first | (with_reducible first | exact HB.out | apply below_alloc | apply pw_below_drewN | apply below_drew1) | exact HB.out)⟩⟩
                    case rest =>
                      clear HC90
                      try clear c1
                      try clear c2
                      try clear c2b0
                      try clear c2b1
                      try clear p2
                      try clear q2
                      try clear hx2
                      try clear c3
                      try clear p3
                      try clear q3
                      try clear hx3
                      try clear qi3
                      try clear c4
                      try clear c5
                      try clear c6
                      try clear p6
                      try clear c7
                      try clear c8
                      try clear c10
                      try clear c11
                      try clear c11b0
                      try clear c12
                      try clear c12b0
                      try clear c17
                      try clear c17b0
                      try clear c18
                      try clear c18b0
                      try clear c19
                      try clear c19b0
                      try clear c19b1
                      try clear c22
                      try clear c25
                      try clear c25b0
                      try clear c25b1
                      try clear c26
                      try clear c26b0
                      try clear c26b1
                      try clear c27
                      try clear c27b0
                      try clear c27b1
                      try clear c29
                      try clear p29
                      try clear q29
                      try clear hx29
                      try clear c30
                      try clear c31
                      try clear c32
                      try clear p32
                      try clear q32
                      try clear hx32
                      try clear qi32
                      try clear c33
                      try clear p33
                      try clear q33
                      try clear hx33
                      try clear qi33
                      try clear c47
                      try clear c47b0
                      try clear c47b1
                      try clear c48
                      try clear c48b0
                      try clear c48b1
                      try clear c49
                      try clear c49b0
                      try clear c49b1
                      try clear c50
                      try clear c50b0
                      try clear c50b1
                      try clear p64
                      try clear c75
                      try clear c75b0
                      try clear c75b1
                      try clear c76
                      try clear c76b0
                      try clear c76b1
                      try clear c77
                      try clear c77b0
                      try clear c77b1
                      try clear c78
                      try clear c78b0
                      try clear c78b1
                      try clear c80
                      try clear c81
                      try clear c81b0
                      try clear c81b1
                      try clear c82
                      try clear c82b0
                      try clear c82b1
                      try clear c109
                      try clear c109b0
                      try clear c109b1
                      try clear c110
                      try clear c110b0
                      try clear c110b1
                      try clear c111
                      try clear c111b0
                      try clear c111b1
                      try clear c112
                      try clear c112b0
                      try clear c112b1
                      try clear c114
                      try clear c115
                      try clear c115b0
                      try clear c115b1
                      try clear c116
                      try clear c116b0
                      try clear c116b1
                      try clear hx296_0
                      try clear hx297_0
                      try clear hx326_0
                      try clear hx326_1
                      try clear hx326_2
                      try clear hx327_0
                      try clear hx327_1
                      try clear hx328_0
                      try clear hx328_1
                      try clear hx330_0
                      try clear hx330_1
                      try clear hx331_0
                      try clear hx331_1
                      try clear p2
                      try clear p29
                      try clear p296
                      try clear p297
                      try clear p3
                      try clear p32
                      try clear p326
                      try clear p327
                      try clear p328
                      try clear p330
                      try clear p331
                      try clear p6
                      try clear p64
                      try clear q2
                      try clear q29
                      try clear q296
                      try clear q297
                      try clear q3
                      try clear q32
                      try clear q326
                      try clear q327
                      try clear q328
                      try clear q330
                      try clear q331
                      obtain ⟨kq, x2_89, rfl, HA, HJ89, HB⟩ := hcut
                      cases kq with
                      | zero => exact absurd HA.out (by simp [laws_FnSubVar.j4])
                      | succ kj89 =>
                        have H := HA.out
                        clear HA
                        simp only [laws_FnSubVar.j4] at H
                        obtain rfl := Option.some.inj H
                        go_wp2
                        go_ret
                        exact ⟨by first | rfl | (simp [errW_none, errW_some] <;> rfl) | (simp [*, errW_none, errW_some] <;> rfl), by repeat (first | (with_reducible first | exact HB.out | apply below_alloc | apply pw_below_drewN | apply below_drew1) | exact HB.out)⟩
    · replace c5 := Bool.eq_false_iff.mpr c5
      subst c5
      have H1 : ((impl_SubUnify.f k (([] : List (S30))) t281 t281).bind fun bt288 => (if bt288.2 = 4 then ((laws_caOk.f).bind fun t292 => (some t292)) else (some false))) = some r := by rw [if_neg (show ¬ (false = true) by decide)] at H; exact H
      clear H
      have H := H1
      clear H1
      obtain ⟨y285, hy285⟩ : ∃ y_ : List (S30), y_ = (([] : List (S30))) := ⟨_, rfl⟩
      replace H : ((impl_SubUnify.f k y285 t281 t281).bind fun bt288 => (if bt288.2 = 4 then ((laws_caOk.f).bind fun t292 => (some t292)) else (some false))) = some r := by first | (rw [hy285]; with_reducible exact H) | (have H2_ := (Option.bind_some _ _).symm.trans H; rw [hy285]; with_reducible exact H2_) | (have H2_ := (Option.bind_some _ _).symm.trans H; with_reducible exact H2_) | with_reducible exact H | (rw [hy285]; exact H) | exact H
      have Ny285 := Aside0.mk hy285
      clear hy285
      replace H := Option.bind_eq_some_iff.mp H
      obtain ⟨⟨t288, t289⟩, A1240, H⟩ := H
      replace H : (if t289 = 4 then ((laws_caOk.f).bind fun t292 => (some t292)) else (some false)) = some r := H
      have A124 := Aside0.mk A1240
      clear A1240
      by_cases c125 : t289 = 4
      · rw [if_pos c125] at H
        have c125b0 : (t289 == 4) = true := beq_iff_eq.mpr c125
        have c125b1 : (t289 != 4) = false := bne_eq_false_iff_eq.mpr c125
        clear c125
        replace H := Option.bind_eq_some_iff.mp H
        obtain ⟨t292, A1260, H⟩ := H
        replace H : (some t292) = some r := H
        have A126 := Aside0.mk A1260
        clear A1260
        obtain rfl := Option.some.inj H
        go_enter Tryd.func6, Tryd.ntmps6
        go_wp2_with (first | ((with_reducible refine gate_callee (f := 29) rfl ?_); refine goesL_ (some 22) rfl rfl Tryd.func29 (by kernel_rfl) rfl #[.slice A0 l0.length c0] rfl (by (try simp only [List.map_toArray, List.map_cons, List.map_nil]); first | done | rfl | (simp only [List.length_drop, List.length_take]; rfl)) ?_; (with_reducible refine (spec_DrawTrmOk.calls k _ _ l0 t281 _ ?side1 ?side2 A3.out).mono ?_); (case side1 => repeat (first | exact HR0.out | (with_reducible refine Kd.C_alloc ?_ _) | (with_reducible refine Kd.C_drewN ?_ _) | (with_reducible refine Kd.C_drew ?_))); (case side2 => exact HC0.out); rintro e w127 ⟨v282, rfl, ho0, hb⟩; refine ⟨_, rfl, ?_⟩; have n0_ := Aside0.mk (Kd.R_lower ho0 (below_size (by repeat (first | (with_reducible first | exact HB.out | apply below_alloc | apply pw_below_drewN | apply below_drew1) | exact HB.out)))); have n1_ := Aside0.mk (below_step (by repeat (first | (with_reducible first | exact HB.out | apply below_alloc | apply pw_below_drewN | apply below_drew1) | exact HB.out)) hb); clear HB; have HO283 := n0_; have HB := n1_; clear n0_ n1_; (try clear hb); (try clear hb2); (try clear hk); (try clear hi); (try clear ho0); obtain ⟨Ao128, co128, eo128⟩ := Kd.R_slice HO283.out; subst eo128) | ((with_reducible refine gate_callee (f := 30) rfl ?_); refine goesL_ (some 24) rfl rfl Tryd.func30 (by kernel_rfl) rfl #[.slice Ao128 t281.length co128] rfl (by (try simp only [List.map_toArray, List.map_cons, List.map_nil]); first | done | rfl | (simp only [List.length_drop, List.length_take]; rfl)) ?_; (with_reducible refine (spec_TrmOk.calls k _ _ t281 false _ ?side1 ?side2 A4.out).mono ?_); (case side1 => repeat (first | exact (Kd.R_reads' HO283.out).2.2 | (with_reducible refine Kd.C_alloc ?_ _) | (with_reducible refine Kd.C_drewN ?_ _) | (with_reducible refine Kd.C_drew ?_))); (case side2 => exact (Kd.R_reads' HO283.out).2.1); rintro e w129 ⟨rfl, hb⟩; refine ⟨_, rfl, ?_⟩; have n0_ := Aside0.mk (Kd.R_below (by (with_reducible repeat (first | apply Kd.R_alloc | apply Kd.R_drewN | apply Kd.R_drew)); exact HO283.out) hb); have n1_ := Aside0.mk (below_step (by repeat (first | (with_reducible first | exact HB.out | apply below_alloc | apply pw_below_drewN | apply below_drew1) | exact HB.out)) hb); clear HO283; clear HB; have HO283 := n0_; have HB := n1_; clear n0_ n1_; (try clear hb); (try clear hb2); (try clear hk); (try clear hi)) | ((with_reducible refine gate_dst (N := 27) rfl ?_); (try (refine gate_guard (by rfl) ?_; dsimp only)); refine Kd.S_lit k30 _ 30 ?hg (N := 27) ?hd (xs := ([] : List (S30))) (inner := []) (ok := fun _ => True) (okp := fun _ => True) ?hr ?hp (fun _ hk => hk) trivial (Below.refl _ _) (Nat.le_refl _) (by simp) ?_; (case hd => rfl); (case hg => rfl); (case hr => first | (go_simp; done) | (go_simp; rfl)); (case hp => exact (Reps.none _ _)); intro v286 w130 ho131 hb hg_ hnew_; clear hg_ hnew_; (first | rw [← Ny285.out] at ho131 | (simp only [Int.reduceToNat] at ho131; rw [← Ny285.out] at ho131)); have n0_ := Aside0.mk (Kd.R_below (by (with_reducible repeat (first | apply Kd.R_alloc | apply Kd.R_drewN | apply Kd.R_drew)); exact HO283.out) hb); have n1_ := Aside0.mk (Kd.S_lower (Kd.S_new' ho131 (Kd.R_lt (by (with_reducible repeat (first | apply Kd.R_alloc | apply Kd.R_drewN | apply Kd.R_drew)); exact HO283.out))) (below_size (by repeat (first | (with_reducible first | exact HB.out | apply below_alloc | apply pw_below_drewN | apply below_drew1) | exact HB.out)))); have n2_ := Aside0.mk (below_step (by repeat (first | (with_reducible first | exact HB.out | apply below_alloc | apply pw_below_drewN | apply below_drew1) | exact HB.out)) hb); clear HO283; clear HB; have HO283 := n0_; have HO287 := n1_; have HB := n2_; clear n0_ n1_ n2_; clear hb ho131; obtain ⟨Ao132, co132, eo132⟩ := Kd.S_slice HO287.out; subst eo132) | ((with_reducible refine gate_callee (f := 31) rfl ?_); refine goesL_ (some 30) rfl rfl Tryd.func31 (by kernel_rfl) rfl #[.slice Ao132 y285.length co132, .slice Ao128 t281.length co128, .slice Ao128 t281.length co128] rfl (by (try simp only [List.map_toArray, List.map_cons, List.map_nil]); first | done | rfl | (simp only [List.length_drop, List.length_take]; rfl)) ?_; (with_reducible refine (impl_SubUnify.calls k _ _ y285 _ _ t281 _ _ t281 t288 t289 _ ?side1 ?side2 ?side3 ?side4 ?side5 ?side6 A124.out).mono ?_); (case side1 => repeat (first | exact (Kd.S_reads' HO287.out).2.2 | (with_reducible refine Kd.C_alloc ?_ _) | (with_reducible refine Kd.C_drewN ?_ _) | (with_reducible refine Kd.C_drew ?_))); (case side2 => exact (Kd.S_reads' HO287.out).2.1); (case side3 => repeat (first | exact (Kd.R_reads' HO283.out).2.2 | (with_reducible refine Kd.C_alloc ?_ _) | (with_reducible refine Kd.C_drewN ?_ _) | (with_reducible refine Kd.C_drew ?_))); (case side4 => exact (Kd.R_reads' HO283.out).2.1); (case side5 => repeat (first | exact (Kd.R_reads' HO283.out).2.2 | (with_reducible refine Kd.C_alloc ?_ _) | (with_reducible refine Kd.C_drewN ?_ _) | (with_reducible refine Kd.C_drew ?_))); (case side6 => exact (Kd.R_reads' HO283.out).2.1); rintro e w133 ⟨v290, rfl, ho0, hb⟩; refine ⟨_, rfl, ?_⟩; have n0_ := Aside0.mk (Kd.R_below (by (with_reducible repeat (first | apply Kd.R_alloc | apply Kd.R_drewN | apply Kd.R_drew)); exact HO283.out) hb); have n1_ := Aside0.mk (Kd.S_elder' (by (with_reducible repeat (first | apply Kd.S_alloc | apply Kd.S_drewN | apply Kd.S_drew)); exact HO287.out) (Kd.S_base ho0) hb); have n2_ := Aside0.mk (Kd.S_lower (Kd.S_new' (Kd.S_new' ho0 (Kd.R_lt (by (with_reducible repeat (first | apply Kd.R_alloc | apply Kd.R_drewN | apply Kd.R_drew)); exact HO283.out))) (Kd.S_lt (by (with_reducible repeat (first | apply Kd.S_alloc | apply Kd.S_drewN | apply Kd.S_drew)); exact HO287.out))) (below_size (by repeat (first | (with_reducible first | exact HB.out | apply below_alloc | apply pw_below_drewN | apply below_drew1) | exact HB.out)))); have n3_ := Aside0.mk (below_step (by repeat (first | (with_reducible first | exact HB.out | apply below_alloc | apply pw_below_drewN | apply below_drew1) | exact HB.out)) hb); clear HO283; clear HO287; clear HB; have HO283 := n0_; have HO287 := n1_; have HO291 := n2_; have HB := n3_; clear n0_ n1_ n2_ n3_; (try clear hb); (try clear hb2); (try clear hk); (try clear hi); (try clear ho0)) | (go_at_call 22; (with_reducible refine (laws_caOk.calls  t292 _ A126.out).mono ?_); rintro e w134 ⟨rfl, hb⟩; have n0_ := Aside0.mk (Kd.R_below (by (with_reducible repeat (first | apply Kd.R_alloc | apply Kd.R_drewN | apply Kd.R_drew)); exact HO283.out) hb); have n1_ := Aside0.mk (Kd.S_below (by (with_reducible repeat (first | apply Kd.S_alloc | apply Kd.S_drewN | apply Kd.S_drew)); exact HO287.out) hb); have n2_ := Aside0.mk (Kd.S_below (by (with_reducible repeat (first | apply Kd.S_alloc | apply Kd.S_drewN | apply Kd.S_drew)); exact HO291.out) hb); have n3_ := Aside0.mk (below_step (by repeat (first | (with_reducible first | exact HB.out | apply below_alloc | apply pw_below_drewN | apply below_drew1) | exact HB.out)) hb); clear HO283; clear HO287; clear HO291; clear HB; have HO283 := n0_; have HO287 := n1_; have HO291 := n2_; have HB := n3_; clear n0_ n1_ n2_ n3_; (try clear hb); (try clear hb2); (try clear hk); (try clear hi)))
        go_ret
        exact ⟨by first | rfl | (simp [errW_none, errW_some] <;> rfl) | (simp [*, errW_none, errW_some] <;> rfl), by repeat (first | (with_reducible first | exact HB.out | apply below_alloc | apply pw_below_drewN | apply below_drew1) | exact HB.out)⟩
      · rw [if_neg c125] at H
        have c125b0 : (t289 == 4) = false := beq_eq_false_iff_ne.mpr c125
        have c125b1 : (t289 != 4) = true := bne_iff_ne.mpr c125
        obtain rfl := Option.some.inj H
        go_enter Tryd.func6, Tryd.ntmps6
        go_wp2_with (first | ((with_reducible refine gate_callee (f := 29) rfl ?_); refine goesL_ (some 22) rfl rfl Tryd.func29 (by kernel_rfl) rfl #[.slice A0 l0.length c0] rfl (by (try simp only [List.map_toArray, List.map_cons, List.map_nil]); first | done | rfl | (simp only [List.length_drop, List.length_take]; rfl)) ?_; (with_reducible refine (spec_DrawTrmOk.calls k _ _ l0 t281 _ ?side1 ?side2 A3.out).mono ?_); (case side1 => repeat (first | exact HR0.out | (with_reducible refine Kd.C_alloc ?_ _) | (with_reducible refine Kd.C_drewN ?_ _) | (with_reducible refine Kd.C_drew ?_))); (case side2 => exact HC0.out); rintro e w135 ⟨v282, rfl, ho0, hb⟩; refine ⟨_, rfl, ?_⟩; have n0_ := Aside0.mk (Kd.R_lower ho0 (below_size (by repeat (first | (with_reducible first | exact HB.out | apply below_alloc | apply pw_below_drewN | apply below_drew1) | exact HB.out)))); have n1_ := Aside0.mk (below_step (by repeat (first | (with_reducible first | exact HB.out | apply below_alloc | apply pw_below_drewN | apply below_drew1) | exact HB.out)) hb); clear HB; have HO283 := n0_; have HB := n1_; clear n0_ n1_; (try clear hb); (try clear hb2); (try clear hk); (try clear hi); (try clear ho0); obtain ⟨Ao136, co136, eo136⟩ := Kd.R_slice HO283.out; subst eo136) | ((with_reducible refine gate_callee (f := 30) rfl ?_); refine goesL_ (some 24) rfl rfl Tryd.func30 (by kernel_rfl) rfl #[.slice Ao136 t281.length co136] rfl (by (try simp only [List.map_toArray, List.map_cons, List.map_nil]); first | done | rfl | (simp only [List.length_drop, List.length_take]; rfl)) ?_; (with_reducible refine (spec_TrmOk.calls k _ _ t281 false _ ?side1 ?side2 A4.out).mono ?_); (case side1 => repeat (first | exact (Kd.R_reads' HO283.out).2.2 | (with_reducible refine Kd.C_alloc ?_ _) | (with_reducible refine Kd.C_drewN ?_ _) | (with_reducible refine Kd.C_drew ?_))); (case side2 => exact (Kd.R_reads' HO283.out).2.1); rintro e w137 ⟨rfl, hb⟩; refine ⟨_, rfl, ?_⟩; have n0_ := Aside0.mk (Kd.R_below (by (with_reducible repeat (first | apply Kd.R_alloc | apply Kd.R_drewN | apply Kd.R_drew)); exact HO283.out) hb); have n1_ := Aside0.mk (below_step (by repeat (first | (with_reducible first | exact HB.out | apply below_alloc | apply pw_below_drewN | apply below_drew1) | exact HB.out)) hb); clear HO283; clear HB; have HO283 := n0_; have HB := n1_; clear n0_ n1_; (try clear hb); (try clear hb2); (try clear hk); (try clear hi)) | ((with_reducible refine gate_dst (N := 27) rfl ?_); (try (refine gate_guard (by rfl) ?_; dsimp only)); refine Kd.S_lit k30 _ 30 ?hg (N := 27) ?hd (xs := ([] : List (S30))) (inner := []) (ok := fun _ => True) (okp := fun _ => True) ?hr ?hp (fun _ hk => hk) trivial (Below.refl _ _) (Nat.le_refl _) (by simp) ?_; (case hd => rfl); (case hg => rfl); (case hr => first | (go_simp; done) | (go_simp; rfl)); (case hp => exact (Reps.none _ _)); intro v286 w138 ho139 hb hg_ hnew_; clear hg_ hnew_; (first | rw [← Ny285.out] at ho139 | (simp only [Int.reduceToNat] at ho139; rw [← Ny285.out] at ho139)); have n0_ := Aside0.mk (Kd.R_below (by (with_reducible repeat (first | apply Kd.R_alloc | apply Kd.R_drewN | apply Kd.R_drew)); exact HO283.out) hb); have n1_ := Aside0.mk (Kd.S_lower (Kd.S_new' ho139 (Kd.R_lt (by (with_reducible repeat (first | apply Kd.R_alloc | apply Kd.R_drewN | apply Kd.R_drew)); exact HO283.out))) (below_size (by repeat (first | (with_reducible first | exact HB.out | apply below_alloc | apply pw_below_drewN | apply below_drew1) | exact HB.out)))); have n2_ := Aside0.mk (below_step (by repeat (first | (with_reducible first | exact HB.out | apply below_alloc | apply pw_below_drewN | apply below_drew1) | exact HB.out)) hb); clear HO283; clear HB; have HO283 := n0_; have HO287 := n1_; have HB := n2_; clear n0_ n1_ n2_; clear hb ho139; obtain ⟨Ao140, co140, eo140⟩ := Kd.S_slice HO287.out; subst eo140) | ((with_reducible refine gate_callee (f := 31) rfl ?_); refine goesL_ (some 30) rfl rfl Tryd.func31 (by kernel_rfl) rfl #[.slice Ao140 y285.length co140, .slice Ao136 t281.length co136, .slice Ao136 t281.length co136] rfl (by (try simp only [List.map_toArray, List.map_cons, List.map_nil]); first | done | rfl | (simp only [List.length_drop, List.length_take]; rfl)) ?_; (with_reducible refine (impl_SubUnify.calls k _ _ y285 _ _ t281 _ _ t281 t288 t289 _ ?side1 ?side2 ?side3 ?side4 ?side5 ?side6 A124.out).mono ?_); (case side1 => repeat (first | exact (Kd.S_reads' HO287.out).2.2 | (with_reducible refine Kd.C_alloc ?_ _) | (with_reducible refine Kd.C_drewN ?_ _) | (with_reducible refine Kd.C_drew ?_))); (case side2 => exact (Kd.S_reads' HO287.out).2.1); (case side3 => repeat (first | exact (Kd.R_reads' HO283.out).2.2 | (with_reducible refine Kd.C_alloc ?_ _) | (with_reducible refine Kd.C_drewN ?_ _) | (with_reducible refine Kd.C_drew ?_))); (case side4 => exact (Kd.R_reads' HO283.out).2.1); (case side5 => repeat (first | exact (Kd.R_reads' HO283.out).2.2 | (with_reducible refine Kd.C_alloc ?_ _) | (with_reducible refine Kd.C_drewN ?_ _) | (with_reducible refine Kd.C_drew ?_))); (case side6 => exact (Kd.R_reads' HO283.out).2.1); rintro e w141 ⟨v290, rfl, ho0, hb⟩; refine ⟨_, rfl, ?_⟩; have n0_ := Aside0.mk (Kd.R_below (by (with_reducible repeat (first | apply Kd.R_alloc | apply Kd.R_drewN | apply Kd.R_drew)); exact HO283.out) hb); have n1_ := Aside0.mk (Kd.S_elder' (by (with_reducible repeat (first | apply Kd.S_alloc | apply Kd.S_drewN | apply Kd.S_drew)); exact HO287.out) (Kd.S_base ho0) hb); have n2_ := Aside0.mk (Kd.S_lower (Kd.S_new' (Kd.S_new' ho0 (Kd.R_lt (by (with_reducible repeat (first | apply Kd.R_alloc | apply Kd.R_drewN | apply Kd.R_drew)); exact HO283.out))) (Kd.S_lt (by (with_reducible repeat (first | apply Kd.S_alloc | apply Kd.S_drewN | apply Kd.S_drew)); exact HO287.out))) (below_size (by repeat (first | (with_reducible first | exact HB.out | apply below_alloc | apply pw_below_drewN | apply below_drew1) | exact HB.out)))); have n3_ := Aside0.mk (below_step (by repeat (first | (with_reducible first | exact HB.out | apply below_alloc | apply pw_below_drewN | apply below_drew1) | exact HB.out)) hb); clear HO283; clear HO287; clear HB; have HO283 := n0_; have HO287 := n1_; have HO291 := n2_; have HB := n3_; clear n0_ n1_ n2_ n3_; (try clear hb); (try clear hb2); (try clear hk); (try clear hi); (try clear ho0)))
        go_ret
        exact ⟨by first | rfl | (simp [errW_none, errW_some] <;> rfl) | (simp [*, errW_none, errW_some] <;> rfl), by repeat (first | (with_reducible first | exact HB.out | apply below_alloc | apply pw_below_drewN | apply below_drew1) | exact HB.out)⟩

/-- THE ONE PURE STATEMENT of laws_FnSubVar: yours. -/
def laws_FnSubVar.Pure : Prop := ∀ (l0 : List Int), l0.length ≤ maxLen → l0.length * 1 ≤ 140737488351232 → (∀ x ∈ l0, (Lit.int .u8 x).wf = true) → ∃ k, laws_FnSubVar.f k l0 = some true
theorem laws_FnSubVar.walk (P : laws_FnSubVar.Pure) (a0 : Option Addr) (len0 cap0 : Nat) (z0 : List Int) (w : World) (w0 : (a0 = none ∧ len0 = 0 ∧ cap0 = 0 ∧ z0 = []) ∨ ∃ x, a0 = some x ∧ len0 ≤ cap0 ∧ cap0 ≤ maxLen ∧ z0.length = cap0 ∧ (∀ i, i < z0.length → w.cell? (x.add i) = some (.int .u8 (z0.getD i 0))) ∧ ∀ n ∈ z0, (Lit.int .u8 n).wf = true) (y0 : len0 * 1 ≤ 140737488351232) :
    Calls Tryd.prog 6 #[.slice a0 len0 cap0] w fun e w' => e = .returned (.bool true) ∧ Below w.heap.size w w' := by
  obtain ⟨l0, rfl, hr0, hm0, hw0, hc0⟩ := ReadsInt.ofRowC w0
  obtain ⟨k, h⟩ := P l0 hm0 y0 hw0
  refine (laws_FnSubVar.calls k _ _ l0 true w (Kd.C_of_reads (d := (0 : Int)) (h1 := fun _ => rfl) hr0) hc0 h).mono ?_
  rintro e w' ⟨rfl, hd⟩
  exact ⟨rfl, hd⟩

end Go.Proofs.YtlaicnoikeieeaaDoor.P
