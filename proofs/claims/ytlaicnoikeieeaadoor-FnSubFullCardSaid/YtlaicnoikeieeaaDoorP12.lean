/- Contracts of functions of the program: each as a Lean function, and that its call does what that says; printed by cprint.py (this session) over print.py of the kit. Conditions: the hypotheses of each theorem. -/
import Derived.Test.YtlaicnoikeieeaaDoorVZ
import Derived.Test.YtlaicnoikeieeaaDoorP0
import Derived.Test.YtlaicnoikeieeaaDoorP2
import Derived.Test.YtlaicnoikeieeaaDoorP3
import Derived.Test.YtlaicnoikeieeaaDoorP5
import Derived.Test.YtlaicnoikeieeaaDoorP9
import Derived.Test.YtlaicnoikeieeaaDoorP10
import Derived.Test.YtlaicnoikeieeaaDoorP11
namespace Go.Proofs.YtlaicnoikeieeaaDoor.P
open Go.RowKit Go.Proofs.YtlaicnoikeieeaaDoorW.PrintWords Go.Proofs.YtlaicnoikeieeaaDoorW.PrintLast Go.Proofs.YtlaicnoikeieeaaDoorW.PrintMore
attribute [local go_sem] max2_int min2_int max_two min_two max_three min_three max_four min_four   -- for this text's walks alone
set_option linter.unusedVariables false
set_option linter.unusedSimpArgs false

/-! ### impl_copiedBinds: function 70 -/
/-! ### impl_SubUnify: function 31 -/
/-! ### spec_l2Walk: function 105 -/
def spec_l2Walk.l0:Nat→List (S30)→List (S46)→Option ((List (S46)))
 | 0,_,_=>none
 | k+1,x0,x5=>if 0<(x5.length:Int) then (if ((rd_T46 x5 0).f0)=1 then ((spec_l2Get.f k x0 ((rd_T46 x5 0).f1)).bind fun t272=>(if (t272.length:Int)=0 then (some x5) else (spec_l2Walk.l0 k x0 t272))) else (some x5)) else (none)
def spec_l2Walk.f (k:Nat) (l0:List (S30)) (l1:List (S46)):Option ((List (S46))):=spec_l2Walk.l0 k l0 l1
set_option maxHeartbeats 8000000 in
set_option maxRecDepth 100000 in
theorem spec_l2Walk.calls (k:Nat) (P0_:Nat→Prop) (A0:Option Addr) (c0:Nat) (l0:List (S30)) (P1_:Nat→Prop) (A1:Option Addr) (c1:Nat) (l1:List (S46)) (r:List (S46)) (w:World) (hs0:Kd.V k30 30 w w.heap.size (fun k_=>P0_ k_) (.slice A0 l0.length c0) l0) (hs1:Kd.V k46 46 w w.heap.size (fun k_=>P1_ k_) (.slice A1 l1.length c1) l1) (h:spec_l2Walk.f k l0 l1=some r) :
  Calls Tryd.prog 105 #[.slice A0 l0.length c0,.slice A1 l1.length c1] w fun e w'=>∃ v0_:Value,e = .returned (v0_)∧Kd.V k46 46 w' w.heap.size (fun k_=>((P0_ k_∨P1_ k_)∨w.heap.size≤k_)) v0_ r∧Below w.heap.size w w':=by
 have HO0:=Aside0.mk (show Kd.V k30 30 w w.heap.size (fun k_=>((P0_ k_∨P1_ k_)∨w.heap.size≤k_)) (.slice A0 l0.length c0) l0 from Kd.V_mono hs0 (fun k_ hk=>.inl (.inl hk)))
 have HO1:=Aside0.mk (show Kd.V k46 46 w w.heap.size (fun k_=>((P0_ k_∨P1_ k_)∨w.heap.size≤k_)) (.slice A1 l1.length c1) l1 from Kd.V_mono hs1 (fun k_ hk=>.inl (.inr hk)))
 have HB:=Aside0.mk (Below.refl w.heap.size w)
 have H:(spec_l2Walk.l0 k l0 l1)=some r:=h
 clear h
 have H':=Aside0.mk H
 clear H
 go_enter Tryd.func105,Tryd.ntmps105
 go_wp2
 go_loopg [5] k (fun kq v5 w'=>∃ (x5_1:List (S46)),Aside0 (spec_l2Walk.l0 kq l0 x5_1=some r)∧Aside0 (kq≤k)∧Aside0 (Kd.V k30 30 w' w.heap.size (fun k_=>((P0_ k_∨P1_ k_)∨w.heap.size≤k_)) (.slice A0 l0.length c0) l0)∧Aside0 (Kd.V k46 46 w' w.heap.size (fun k_=>((P0_ k_∨P1_ k_)∨w.heap.size≤k_)) v5 x5_1)∧Aside0 (Below w.heap.size w w'))
 case atStart=>exact ⟨(l1),H',⟨Nat.le_refl _⟩,⟨by (with_reducible repeat (first|apply Kd.V_alloc|apply Kd.V_drewN|apply Kd.V_drew));exact HO0.out⟩,⟨by (with_reducible repeat (first|apply Kd.V_alloc|apply Kd.V_drewN|apply Kd.V_drew));exact HO1.out⟩,⟨qz5⟩⟩
 case round=>
  clear H'
  try clear c1
  try clear p2
  obtain ⟨x5_1,HA,HK1,HO_0,HO_5,HB⟩:=hrel
  cases gk with
  | zero=>exact absurd HA.out (by simp [spec_l2Walk.l0])
  | succ k1=>
   have H:=HA.out
   clear HA
   simp only [spec_l2Walk.l0] at H
   by_cases c3:0<(x5_1.length:Int)
   ·rw [if_pos c3] at H
    have c3b0:decide (0<(x5_1.length:Int))=true:=decide_eq_true c3
    have c3b1:decide (0<x5_1.length)=true:=decide_eq_true (by omega)
    clear c3
    by_cases c4:((rd_T46 x5_1 0).f0)=1
    ·rw [if_pos c4] at H
     have c4b0:(((rd_T46 x5_1 0).f0) == 1)=true:=beq_iff_eq.mpr c4
     have c4b1:(((rd_T46 x5_1 0).f0) != 1)=false:=bne_eq_false_iff_eq.mpr c4
     clear c4
     replace H:=Option.bind_eq_some_iff.mp H
     obtain ⟨t272,A50,H⟩:=H
     try dsimp only at H
     have A5:=Aside0.mk A50
     clear A50
     by_cases c6:(t272.length:Int)=0
     ·rw [if_pos c6] at H
      have c6b0:((t272.length:Int) == 0)=true:=beq_iff_eq.mpr c6
      have c6b1:((t272.length:Int) != 0)=false:=bne_eq_false_iff_eq.mpr c6
      clear c6
      obtain rfl:=Option.some.inj H
      obtain ⟨Ao7,co7,eo7⟩:=Kd.V_slice HO_5.out
      subst eo7
      have p270:0≤(0:Int):=(by omega)
      have q270:0<(x5_1.length:Int):=of_decide_eq_true qz6
      obtain ⟨ad270,e270,hx270_0,hx270_1,hx270_2⟩:=at_T46 (Kd.V_reads' HO_5.out).2.2 0 p270 q270
      cases e270
      have qi270:(0<x5_1.length)=True:=eq_true (by omega)
      (try rw [show ((0:Int)).toNat=0 from rfl] at hx270_0)
      (try rw [show 0 * 3=0 from rfl] at hx270_0)
      (try rw [Addr.add_zero'] at hx270_0)
      (try rw [show ((0:Int)).toNat=0 from rfl] at hx270_1)
      (try rw [show 0 * 3=0 from rfl] at hx270_1)
      (try rw [Addr.add_zero'] at hx270_1)
      (try rw [show ((0:Int)).toNat=0 from rfl] at hx270_2)
      (try rw [show 0 * 3=0 from rfl] at hx270_2)
      (try rw [Addr.add_zero'] at hx270_2)
      replace p270:=eq_true p270
      replace q270:=eq_true q270
      have p271:0≤(0:Int):=(by omega)
      have q271:0<(x5_1.length:Int):=of_decide_eq_true qz6
      obtain ⟨ad271,e271,hx271_0,hx271_1,hx271_2⟩:=at_T46 (Kd.V_reads' HO_5.out).2.2 0 p271 q271
      obtain rfl:ad270=ad271:=(by injection e271)
      have qi271:(0<x5_1.length)=True:=eq_true (by omega)
      (try rw [show ((0:Int)).toNat=0 from rfl] at hx271_0)
      (try rw [show 0 * 3=0 from rfl] at hx271_0)
      (try rw [Addr.add_zero'] at hx271_0)
      (try rw [show ((0:Int)).toNat=0 from rfl] at hx271_1)
      (try rw [show 0 * 3=0 from rfl] at hx271_1)
      (try rw [Addr.add_zero'] at hx271_1)
      (try rw [show ((0:Int)).toNat=0 from rfl] at hx271_2)
      (try rw [show 0 * 3=0 from rfl] at hx271_2)
      (try rw [Addr.add_zero'] at hx271_2)
      replace p271:=eq_true p271
      replace q271:=eq_true q271
      go_wp2_with (first|(go_at_call 92;(with_reducible refine (spec_l2Get.calls k1 (fun k_=>((P0_ k_∨P1_ k_)∨w.heap.size≤k_)) _ _ l0 ((rd_T46 x5_1 0).f1) t272 _ ?side1 A5.out).mono ?_);(case side1=>exact HO_0.out);rintro e w8 ⟨v273,rfl,ho0,hb⟩;have n0_:=Aside0.mk (Kd.V_below qz52 hb);have n1_:=Aside0.mk (Kd.V_below qz63 hb);have n2_:=Aside0.mk (Kd.V_lower (Kd.V_mono (ok':=fun k_=>((P0_ k_∨P1_ k_)∨w.heap.size≤k_)) ho0 (fun k_ hk_=>Or.elim hk_ (fun hs_=>hs_) (fun hn_=>(.inr (Nat.le_trans (below_size qz4) hn_))))) (below_size qz4));have n3_:=Aside0.mk (below_step qz4 hb);clear HO_0 HO_5 HB;have HO_0:=n0_;have HO_5:=n1_;have HO274:=n2_;have HB:=n3_;clear n0_ n1_ n2_ n3_;(try clear hb);(try clear hb2);(try clear hk);(try clear hi);(try clear ho0);obtain ⟨Ao9,co9,eo9⟩:=Kd.V_slice HO274.out;subst eo9))
      go_ret
      exact ⟨_,qz7,qz63,qz5⟩
     ·rw [if_neg c6] at H
      have c6b0:((t272.length:Int) == 0)=false:=beq_eq_false_iff_ne.mpr c6
      have c6b1:((t272.length:Int) != 0)=true:=bne_iff_ne.mpr c6
      have c6b2:¬ (t272=[]):=fun h_=>c6 (by rw [h_];rfl)
      have H':=Aside0.mk H
      clear H
      obtain ⟨Ao10,co10,eo10⟩:=Kd.V_slice HO_5.out
      subst eo10
      have p270:0≤(0:Int):=(by omega)
      have q270:0<(x5_1.length:Int):=of_decide_eq_true qz6
      obtain ⟨ad270,e270,hx270_0,hx270_1,hx270_2⟩:=at_T46 (Kd.V_reads' HO_5.out).2.2 0 p270 q270
      cases e270
      have qi270:(0<x5_1.length)=True:=eq_true (by omega)
      (try rw [show ((0:Int)).toNat=0 from rfl] at hx270_0)
      (try rw [show 0 * 3=0 from rfl] at hx270_0)
      (try rw [Addr.add_zero'] at hx270_0)
      (try rw [show ((0:Int)).toNat=0 from rfl] at hx270_1)
      (try rw [show 0 * 3=0 from rfl] at hx270_1)
      (try rw [Addr.add_zero'] at hx270_1)
      (try rw [show ((0:Int)).toNat=0 from rfl] at hx270_2)
      (try rw [show 0 * 3=0 from rfl] at hx270_2)
      (try rw [Addr.add_zero'] at hx270_2)
      replace p270:=eq_true p270
      replace q270:=eq_true q270
      have p271:0≤(0:Int):=(by omega)
      have q271:0<(x5_1.length:Int):=of_decide_eq_true qz6
      obtain ⟨ad271,e271,hx271_0,hx271_1,hx271_2⟩:=at_T46 (Kd.V_reads' HO_5.out).2.2 0 p271 q271
      obtain rfl:ad270=ad271:=(by injection e271)
      have qi271:(0<x5_1.length)=True:=eq_true (by omega)
      (try rw [show ((0:Int)).toNat=0 from rfl] at hx271_0)
      (try rw [show 0 * 3=0 from rfl] at hx271_0)
      (try rw [Addr.add_zero'] at hx271_0)
      (try rw [show ((0:Int)).toNat=0 from rfl] at hx271_1)
      (try rw [show 0 * 3=0 from rfl] at hx271_1)
      (try rw [Addr.add_zero'] at hx271_1)
      (try rw [show ((0:Int)).toNat=0 from rfl] at hx271_2)
      (try rw [show 0 * 3=0 from rfl] at hx271_2)
      (try rw [Addr.add_zero'] at hx271_2)
      replace p271:=eq_true p271
      replace q271:=eq_true q271
      go_wp2_with (first|(go_at_call 92;(with_reducible refine (spec_l2Get.calls k1 (fun k_=>((P0_ k_∨P1_ k_)∨w.heap.size≤k_)) _ _ l0 ((rd_T46 x5_1 0).f1) t272 _ ?side1 A5.out).mono ?_);(case side1=>exact HO_0.out);rintro e w11 ⟨v273,rfl,ho0,hb⟩;have n0_:=Aside0.mk (Kd.V_below qz52 hb);have n1_:=Aside0.mk (Kd.V_below qz63 hb);have n2_:=Aside0.mk (Kd.V_lower (Kd.V_mono (ok':=fun k_=>((P0_ k_∨P1_ k_)∨w.heap.size≤k_)) ho0 (fun k_ hk_=>Or.elim hk_ (fun hs_=>hs_) (fun hn_=>(.inr (Nat.le_trans (below_size qz4) hn_))))) (below_size qz4));have n3_:=Aside0.mk (below_step qz4 hb);clear HO_0 HO_5 HB;have HO_0:=n0_;have HO_5:=n1_;have HO274:=n2_;have HB:=n3_;clear n0_ n1_ n2_ n3_;(try clear hb);(try clear hb2);(try clear hk);(try clear hi);(try clear ho0);obtain ⟨Ao12,co12,eo12⟩:=Kd.V_slice HO274.out;subst eo12))
      go_roundg k1
      case measure=>have:=HK1.out;omega
      case rel=>exact ⟨(t272),H',⟨by have:=HK1.out;omega⟩,⟨qz52⟩,⟨by (with_reducible repeat (first|apply Kd.V_alloc|apply Kd.V_drewN|apply Kd.V_drew));exact HO274.out⟩,⟨qz5⟩⟩
    ·rw [if_neg c4] at H
     have c4b0:(((rd_T46 x5_1 0).f0) == 1)=false:=beq_eq_false_iff_ne.mpr c4
     have c4b1:(((rd_T46 x5_1 0).f0) != 1)=true:=bne_iff_ne.mpr c4
     obtain rfl:=Option.some.inj H
     obtain ⟨Ao13,co13,eo13⟩:=Kd.V_slice HO_5.out
     subst eo13
     have p270:0≤(0:Int):=(by omega)
     have q270:0<(x5_1.length:Int):=of_decide_eq_true qz6
     obtain ⟨ad270,e270,hx270_0,hx270_1,hx270_2⟩:=at_T46 (Kd.V_reads' HO_5.out).2.2 0 p270 q270
     cases e270
     have qi270:(0<x5_1.length)=True:=eq_true (by omega)
     (try rw [show ((0:Int)).toNat=0 from rfl] at hx270_0)
     (try rw [show 0 * 3=0 from rfl] at hx270_0)
     (try rw [Addr.add_zero'] at hx270_0)
     (try rw [show ((0:Int)).toNat=0 from rfl] at hx270_1)
     (try rw [show 0 * 3=0 from rfl] at hx270_1)
     (try rw [Addr.add_zero'] at hx270_1)
     (try rw [show ((0:Int)).toNat=0 from rfl] at hx270_2)
     (try rw [show 0 * 3=0 from rfl] at hx270_2)
     (try rw [Addr.add_zero'] at hx270_2)
     replace p270:=eq_true p270
     replace q270:=eq_true q270
     go_wp2
     go_ret
     exact ⟨_,qz7,qz63,qz5⟩
   ·rw [if_neg c3] at H
    exact absurd H (by simp)

end Go.Proofs.YtlaicnoikeieeaaDoor.P
