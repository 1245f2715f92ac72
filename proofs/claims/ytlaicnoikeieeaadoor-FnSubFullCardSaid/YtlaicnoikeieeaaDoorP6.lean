/- Contracts of functions of the program: each as a Lean function, and that its call does what that says; printed by cprint.py (this session) over print.py of the kit. Conditions: the hypotheses of each theorem. -/
import Derived.Test.YtlaicnoikeieeaaDoorVZ
import Derived.Test.YtlaicnoikeieeaaDoorP0
import Derived.Test.YtlaicnoikeieeaaDoorP5
namespace Go.Proofs.YtlaicnoikeieeaaDoor.P
open Go.RowKit Go.Proofs.YtlaicnoikeieeaaDoorW.PrintWords Go.Proofs.YtlaicnoikeieeaaDoorW.PrintLast Go.Proofs.YtlaicnoikeieeaaDoorW.PrintMore
attribute [local go_sem] max2_int min2_int max_two min_two max_three min_three max_four min_four   -- for this text's walks alone
set_option linter.unusedVariables false
set_option linter.unusedSimpArgs false

/-! ### spec_l2Leads: function 59 -/
mutual
def spec_l2Leads.l0:Nat→List (S30)→List Int→Int→Option (List Int)
 | 0,_,_,_=>none
 | k+1,x0,x5,x6=>if x6<(x5.length:Int) then (if 0≤x6 then ((spec_l2Get.f k x0 (rd x5 x6)).bind fun t155=>((spec_TrmFree.f k t155).bind fun t158=>(spec_l2Leads.l1 k x0 x5 x6 t158 0))) else (none)) else (some x5)
def spec_l2Leads.l1:Nat→List (S30)→List Int→Int→List Int→Int→Option (List Int)
 | 0,_,_,_,_,_=>none
 | k+1,x0,x5,x6,x7,x8=>if x8<(x7.length:Int) then (if 0≤x8 then ((spec_l1Has.f k x5 (rd x7 x8)).bind fun t162=>(if t162=true then (spec_l2Leads.l1 k x0 x5 x6 x7 (wrap64 (x8+1))) else (if x5.length<17592186044416 then (spec_l2Leads.l1 k x0 (x5++[rd x7 x8]) x6 x7 (wrap64 (x8+1))) else (none)))) else (none)) else (spec_l2Leads.l0 k x0 x5 (wrap64 (x6+1)))
end
def spec_l2Leads.f (k:Nat) (l0:List (S30)) (l1:List (S46)):Option (List Int):=(spec_TrmFree.f k l1).bind fun t151=>(spec_l2Leads.l0 k l0 t151 0)
set_option maxHeartbeats 8000000 in
set_option maxRecDepth 100000 in
theorem spec_l2Leads.calls (k:Nat) (A0:Option Addr) (c0:Nat) (l0:List (S30)) (A1:Option Addr) (c1:Nat) (l1:List (S46)) (r:List Int) (w:World) (hr0:Kd.C k30 w A0 l0.length l0) (hc0:l0.length≤c0) (hr1:Kd.C k46 w A1 l1.length l1) (hc1:l1.length≤c1) (h:spec_l2Leads.f k l0 l1=some r) :
  Calls Tryd.prog 59 #[.slice A0 l0.length c0,.slice A1 l1.length c1] w fun e w'=>∃ v0_:Value,e = .returned (v0_)∧Kd.R (Kd.int .i64) 3 w' w.heap.size (fun _=>True) v0_ r∧Below w.heap.size w w':=by
 have HR0:=Aside0.mk hr0
 have HC0:=Aside0.mk hc0
 clear hr0 hc0
 have HR1:=Aside0.mk hr1
 have HC1:=Aside0.mk hc1
 clear hr1 hc1
 have HB:=Aside0.mk (Below.refl w.heap.size w)
 have H:((spec_TrmFree.f k l1).bind fun t151=>(spec_l2Leads.l0 k l0 t151 0))=some r:=h
 clear h
 replace H:=Option.bind_eq_some_iff.mp H
 obtain ⟨t151,A30,H⟩:=H
 try dsimp only at H
 have A3:=Aside0.mk A30
 clear A30
 have H':=Aside0.mk H
 clear H
 go_enter Tryd.func59,Tryd.ntmps59
 go_wp2_with (first|(go_at_call 48;(with_reducible refine (spec_TrmFree.calls k _ _ l1 t151 _ ?side1 ?side2 A3.out).mono ?_);(case side1=>repeat (first|exact HR1.out|(with_reducible refine Kd.C_alloc ?_ _)|(with_reducible refine Kd.C_drewN ?_ _)|(with_reducible refine Kd.C_drew ?_)));(case side2=>exact HC1.out);rintro e w4 ⟨v152,rfl,ho0,hb⟩;have n0_:=Aside0.mk (Kd.R_lower ho0 (below_size qz4));have n1_:=Aside0.mk (below_step qz4 hb);clear HB;have HO153:=n0_;have HB:=n1_;clear n0_ n1_;(try clear hb);(try clear hb2);(try clear hk);(try clear hi);(try clear ho0)))
 go_loopg [5,6] k (fun kq v5 v6 w'=>∃ (x5_1:List Int) (x6_1:Int),v6 = .int .i64 x6_1∧Aside0 (spec_l2Leads.l0 kq l0 x5_1 x6_1=some r)∧Aside0 (kq≤k)∧Aside0 (Kd.R (Kd.int .i64) 3 w' w.heap.size (fun _=>True) v5 x5_1)∧Aside0 (Below w.heap.size w w'))
 case atStart=>exact ⟨(t151),(0),qz9,H',⟨Nat.le_refl _⟩,⟨by (with_reducible repeat (first|apply Kd.R_alloc|apply Kd.R_drewN|apply Kd.R_drew));exact HO153.out⟩,⟨qz5⟩⟩
 case round=>
  clear H'
  try clear c1
  try clear p2
  try clear c4
  obtain ⟨x5_1,x6_1,rfl,HA,HK1,HO_5,HB⟩:=hrel
  cases gk with
  | zero=>exact absurd HA.out (by simp [spec_l2Leads.l0])
  | succ k1=>
   have H:=HA.out
   clear HA
   simp only [spec_l2Leads.l0] at H
   by_cases c5:x6_1<(x5_1.length:Int)
   ·rw [if_pos c5] at H
    have c5b0:decide (x6_1<(x5_1.length:Int))=true:=decide_eq_true c5
    clear c5
    by_cases c6:0≤x6_1
    ·rw [if_pos c6] at H
     have c6b0:decide (0≤x6_1)=true:=decide_eq_true c6
     clear c6
     replace H:=Option.bind_eq_some_iff.mp H
     obtain ⟨t155,A70,H⟩:=H
     try dsimp only at H
     have A7:=Aside0.mk A70
     clear A70
     replace H:=Option.bind_eq_some_iff.mp H
     obtain ⟨t158,A80,H⟩:=H
     try dsimp only at H
     have A8:=Aside0.mk A80
     clear A80
     have H':=Aside0.mk H
     clear H
     obtain ⟨Ao9,co9,eo9⟩:=Kd.R_slice HO_5.out
     subst eo9
     have p154:0≤(x6_1:Int):=of_decide_eq_true qz6
     have q154:x6_1<(x5_1.length:Int):=of_decide_eq_true qz6
     obtain ⟨ad154,e154,hx154_0⟩:=Kd.at_int (Kd.R_reads' HO_5.out).2.2 x6_1 p154 q154
     cases e154
     replace p154:=eq_true p154
     replace q154:=eq_true q154
     go_wp2_with (first|(go_at_call 92;(with_reducible refine (spec_l2Get.calls k1 (fun k_=>k_<w.heap.size) _ _ l0 (rd x5_1 x6_1) t155 _ ?side1 A7.out).mono ?_);(case side1=>exact Kd.V_mk HC0.out (Kd.F_below (Kd.C_F k30_heap HR0.out) qz4));rintro e w10 ⟨v156,rfl,ho0,hb⟩;have n0_:=Aside0.mk (Kd.R_below qz25 hb);have n1_:=Aside0.mk (Kd.V_lower (Kd.V_mono (ok':=fun k_=>some k_≠(.slice (some ad154) x5_1.length co9:Value).ownBlock) ho0 (fun k_ hk_=>Or.elim hk_ (fun hs_=>fun e_=>Nat.not_le.2 hs_ (Kd.R_base HO_5.out k_ e_.symm)) (fun hn_=>(Kd.fresh' (Kd.R_lt qz25) k_ hn_)))) (below_size qz4));have n2_:=Aside0.mk (below_step qz4 hb);clear HO_5 HB;have HO_5:=n0_;have HO157:=n1_;have HB:=n2_;clear n0_ n1_ n2_;(try clear hb);(try clear hb2);(try clear hk);(try clear hi);(try clear ho0);obtain ⟨Ao11,co11,eo11⟩:=Kd.V_slice HO157.out;subst eo11)|(go_at_call 48;(with_reducible refine (spec_TrmFree.calls k1 _ _ t155 t158 _ ?side1 ?side2 A8.out).mono ?_);(case side1=>repeat (first|exact (Kd.V_reads' HO157.out).2.2|(with_reducible refine Kd.C_alloc ?_ _)|(with_reducible refine Kd.C_drewN ?_ _)|(with_reducible refine Kd.C_drew ?_)));(case side2=>exact (Kd.V_reads' HO157.out).2.1);rintro e w12 ⟨v159,rfl,ho0,hb⟩;have n0_:=Aside0.mk (Kd.R_elder' qz25 (Kd.R_base ho0) hb);have n1_:=Aside0.mk (Kd.V_elder' (by (with_reducible repeat (first|apply Kd.V_alloc|apply Kd.V_drewN|apply Kd.V_drew));exact HO157.out) (Kd.R_base ho0) hb);have n2_:=Aside0.mk (Kd.R_lower (Kd.R_new' ho0 (Kd.R_lt qz25)) (below_size qz4));have n3_:=Aside0.mk (below_step qz4 hb);clear HO_5 HO157 HB;have HO_5:=n0_;have HO157:=n1_;have HO160:=n2_;have HB:=n3_;clear n0_ n1_ n2_ n3_;(try clear hb);(try clear hb2);(try clear hk);(try clear hi);(try clear ho0)))
     go_loopg [5,8] k1 (fun kq v5 v8 w'=>∃ (x5_2:List Int) (x8_2:Int),v8 = .int .i64 x8_2∧Aside0 (spec_l2Leads.l1 kq l0 x5_2 x6_1 t158 x8_2=some r)∧Aside0 (kq≤k1)∧Aside0 (Kd.R (Kd.int .i64) 3 w' w.heap.size (fun k_=>some k_≠(v159:Value).ownBlock) v5 x5_2)∧Aside0 (Kd.R (Kd.int .i64) 3 w' w.heap.size (fun k_=>some k_≠(v5:Value).ownBlock) v159 t158)∧Aside0 (Below w.heap.size w w'))
     case atStart=>exact ⟨(x5_1),(0),qz9,H',⟨Nat.le_refl _⟩,⟨by (with_reducible repeat (first|apply Kd.R_alloc|apply Kd.R_drewN|apply Kd.R_drew));exact Kd.R_mono HO_5.out (fun _ hk=>hk.2)⟩,⟨by (with_reducible repeat (first|apply Kd.R_alloc|apply Kd.R_drewN|apply Kd.R_drew));exact Kd.R_mono HO160.out (fun _ hk=>hk.2)⟩,⟨qz5⟩⟩
     case round=>
      clear H'
      try clear c1
      try clear p1
      try clear q1
      try clear hx1
      try clear p2
      try clear c4
      try clear c5
      try clear c5b0
      try clear c6
      try clear c6b0
      try clear c9
      try clear hx154_0
      try clear p154
      try clear p2
      try clear q154
      obtain ⟨x5_2,x8_2,rfl,HA,HK2,HO_5,HO_7,HB⟩:=hrel
      cases gk with
      | zero=>exact absurd HA.out (by simp [spec_l2Leads.l1])
      | succ k2=>
       have H:=HA.out
       clear HA
       simp only [spec_l2Leads.l1] at H
       by_cases c13:x8_2<(t158.length:Int)
       ·rw [if_pos c13] at H
        have c13b0:decide (x8_2<(t158.length:Int))=true:=decide_eq_true c13
        clear c13
        by_cases c14:0≤x8_2
        ·rw [if_pos c14] at H
         have c14b0:decide (0≤x8_2)=true:=decide_eq_true c14
         clear c14
         replace H:=Option.bind_eq_some_iff.mp H
         obtain ⟨t162,A150,H⟩:=H
         try dsimp only at H
         have A15:=Aside0.mk A150
         clear A150
         by_cases c16:t162=true
         ·subst c16
          have H1:(spec_l2Leads.l1 k2 l0 x5_2 x6_1 t158 (wrap64 (x8_2+1)))=some r:=qz34
          clear H
          have H:=H1
          clear H1
          have H':=Aside0.mk H
          clear H
          obtain ⟨Ao17,co17,eo17⟩:=Kd.R_slice HO_7.out
          subst eo17
          have p161:0≤(x8_2:Int):=of_decide_eq_true qz6
          have q161:x8_2<(t158.length:Int):=of_decide_eq_true qz6
          obtain ⟨ad161,e161,hx161_0⟩:=Kd.at_int (Kd.R_reads' HO_7.out).2.2 x8_2 p161 q161
          cases e161
          replace p161:=eq_true p161
          replace q161:=eq_true q161
          obtain ⟨Ao18,co18,eo18⟩:=Kd.R_slice HO_5.out
          subst eo18
          go_wp2_with (first|(go_at_call 58;(with_reducible refine (spec_l1Has.calls k2 _ _ x5_2 (rd t158 x8_2) true _ ?side1 ?side2 A15.out).mono ?_);(case side1=>exact qz30);(case side2=>exact (Kd.R_reads' HO_5.out).2.1);rintro e w' ⟨rfl,⟨nd,rfl⟩⟩))
          go_roundg k2
          case measure=>have:=HK1.out;have:=HK2.out;omega
          case rel=>exact ⟨(x5_2),(wrap64 (x8_2+1)),qz9,H',⟨by have:=HK1.out;have:=HK2.out;omega⟩,⟨qz25⟩,⟨qz31⟩,⟨qz5⟩⟩
         ·replace c16:=Bool.eq_false_iff.mpr c16
          subst c16
          have H1:(if x5_2.length<17592186044416 then (spec_l2Leads.l1 k2 l0 (x5_2++[rd t158 x8_2]) x6_1 t158 (wrap64 (x8_2+1))) else (none))=some r:=qz21
          clear H
          have H:=H1
          clear H1
          by_cases c19:x5_2.length<17592186044416
          ·rw [if_pos c19] at H
           have LMc19:=Aside0.mk c19
           clear c19
           obtain ⟨y164,hy164⟩:∃ y_:List Int,y_=(x5_2++[rd t158 x8_2]):=⟨_,rfl⟩
           replace H:(spec_l2Leads.l1 k2 l0 y164 x6_1 t158 (wrap64 (x8_2+1)))=some r:=by first|(rw [hy164];exact H)|exact H
           have Ny164:=Aside0.mk hy164
           clear hy164
           have H':=Aside0.mk H
           clear H
           obtain ⟨Ao20,co20,eo20⟩:=Kd.R_slice HO_7.out
           subst eo20
           have p161:0≤(x8_2:Int):=of_decide_eq_true qz6
           have q161:x8_2<(t158.length:Int):=of_decide_eq_true qz6
           obtain ⟨ad161,e161,hx161_0⟩:=Kd.at_int (Kd.R_reads' HO_7.out).2.2 x8_2 p161 q161
           cases e161
           replace p161:=eq_true p161
           replace q161:=eq_true q161
           obtain ⟨Ao21,co21,eo21⟩:=Kd.R_slice HO_5.out
           subst eo21
           go_wp2_with (first|(go_at_call 58;(with_reducible refine (spec_l1Has.calls k2 _ _ x5_2 (rd t158 x8_2) false _ ?side1 ?side2 A15.out).mono ?_);(case side1=>exact qz30);(case side2=>exact (Kd.R_reads' HO_5.out).2.1);rintro e w' ⟨rfl,⟨nd,rfl⟩⟩;have p163:0≤(x8_2:Int):=of_decide_eq_true qz6;have q163:x8_2<(t158.length:Int):=of_decide_eq_true qz6;obtain ⟨ad163,e163,hx163_0⟩:=Kd.at_int (Kd.R_reads' HO_7.out).2.2 x8_2 p163 q163;obtain rfl:ad161=ad163:=(by injection e163);replace p163:=eq_true p163;replace q163:=eq_true q163)|((with_reducible refine gate_builtin (b:=.append) (xs:=#[.tmp 37,.tmp 42]) rfl ?_);at_builtin;refine Kd.R_append (Kd.int .i64) (w0:=w) w.heap.size rfl (.tmp 37) (.tmp 42) 43 3 (.int .i64 0) 8 rfl Tryd.underlying43 info3 rfl (by decide) (by omega) (.slice Ao21 x5_2.length co21) x5_2 (rd t158 x8_2) [.int .i64 (rd t158 x8_2)] (fun k_=>some k_≠(.slice (some ad161) t158.length co20:Value).ownBlock) (fun _=>False) rfl rfl ?aP (fun _ hk=>hk.elim) ?aF ?aO ?aB ?aS ?aL ?_;(case aP=>exact rfl);(case aB=>exact qz4);(case aF=>exact (fun k_ hk=>Kd.fresh' (Kd.R_lt qz31) k_ hk));(case aO=>exact qz25);(case aS=>exact (below_size qz4));(case aL=>have:=LMc19.out;omega);intro v165 w22 ho hb hg hat;rw [← Ny164.out] at ho;have n0_:=Aside0.mk (Kd.R_after (ok:=(fun _=>True)) (by (with_reducible repeat (first|apply Kd.R_alloc|apply Kd.R_drewN|apply Kd.R_drew));exact Kd.R_mono HO_7.out (fun _ hk=>⟨trivial,hk⟩)) hg hat);have n1_:=Aside0.mk (hb);have n2_:=Aside0.mk (ho);clear HO_7 HB HO_5;have HO_7:=n0_;have HB:=n1_;have HO166:=n2_;clear n0_ n1_ n2_ ho hb hg hat))
           go_roundg k2
           case measure=>have:=HK1.out;have:=HK2.out;omega
           case rel=>exact ⟨(y164),(wrap64 (x8_2+1)),qz9,H',⟨by have:=HK1.out;have:=HK2.out;omega⟩,⟨by (with_reducible repeat (first|apply Kd.R_alloc|apply Kd.R_drewN|apply Kd.R_drew));exact HO166.out⟩,⟨qz89⟩,⟨qz5⟩⟩
          ·rw [if_neg c19] at H
           exact absurd H (by simp)
        ·rw [if_neg c14] at H
         exact absurd H (by simp)
       ·rw [if_neg c13] at H
        have c13b0:decide (x8_2<(t158.length:Int))=false:=decide_eq_false c13
        clear c13
        have H':=Aside0.mk H
        clear H
        obtain ⟨Ao23,co23,eo23⟩:=Kd.R_slice HO_7.out
        subst eo23
        go_wp2
        go_roundg k2
        case measure=>have:=HK1.out;have:=HK2.out;omega
        case rel=>exact ⟨(x5_2),(wrap64 (x6_1+1)),qz9,H',⟨by have:=HK1.out;have:=HK2.out;omega⟩,⟨by (with_reducible repeat (first|apply Kd.R_alloc|apply Kd.R_drewN|apply Kd.R_drew));exact Kd.R_mono HO_5.out (fun _ hk=>trivial)⟩,⟨qz5⟩⟩
    ·rw [if_neg c6] at H
     exact absurd H (by simp)
   ·rw [if_neg c5] at H
    have c5b0:decide (x6_1<(x5_1.length:Int))=false:=decide_eq_false c5
    clear c5
    obtain rfl:=Option.some.inj H
    obtain ⟨Ao24,co24,eo24⟩:=Kd.R_slice HO_5.out
    subst eo24
    go_wp2
    go_ret
    exact ⟨_,qz7,qz25,qz5⟩

end Go.Proofs.YtlaicnoikeieeaaDoor.P
