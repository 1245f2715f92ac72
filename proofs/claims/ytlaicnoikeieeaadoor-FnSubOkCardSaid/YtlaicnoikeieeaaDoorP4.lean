/- Contracts of functions of the program: each as a Lean function, and that its call does what that says; printed by cprint.py (this session) over print.py of the kit. Conditions: the hypotheses of each theorem. -/
import Derived.Test.YtlaicnoikeieeaaDoorVZ
import Derived.Test.YtlaicnoikeieeaaDoorP0
import Derived.Test.YtlaicnoikeieeaaDoorP3
namespace Go.Proofs.YtlaicnoikeieeaaDoor.P
open Go.RowKit Go.Proofs.YtlaicnoikeieeaaDoorW.PrintWords Go.Proofs.YtlaicnoikeieeaaDoorW.PrintLast Go.Proofs.YtlaicnoikeieeaaDoorW.PrintMore
attribute [local go_sem] max2_int min2_int max_two min_two max_three min_three max_four min_four   -- for this text's walks alone
set_option linter.unusedVariables false
set_option linter.unusedSimpArgs false

/-! ### spec_l2Leads: function 59 -/
mutual
def spec_l2Leads.l0:Nat→List (S30)→List Int→Int→Option (List Int)
 | 0,_,_,_=>none
 | k+1,x0,x5,x6=>if x6<(x5.length:Int) then (if 0≤x6 then ((spec_l2Get.f k x0 (rd x5 x6)).bind fun t145=>((spec_TrmFree.f k t145).bind fun t148=>(spec_l2Leads.l1 k x0 x5 x6 t148 0))) else (none)) else (some x5)
def spec_l2Leads.l1:Nat→List (S30)→List Int→Int→List Int→Int→Option (List Int)
 | 0,_,_,_,_,_=>none
 | k+1,x0,x5,x6,x7,x8=>if x8<(x7.length:Int) then (if 0≤x8 then ((spec_l1Has.f k x5 (rd x7 x8)).bind fun t152=>(if t152=true then (spec_l2Leads.l1 k x0 x5 x6 x7 (wrap64 (x8+1))) else (if x5.length<17592186044416 then (spec_l2Leads.l1 k x0 (x5++[rd x7 x8]) x6 x7 (wrap64 (x8+1))) else (none)))) else (none)) else (spec_l2Leads.l0 k x0 x5 (wrap64 (x6+1)))
end
def spec_l2Leads.f (k:Nat) (l0:List (S30)) (l1:List (S46)):Option (List Int):=(spec_TrmFree.f k l1).bind fun t141=>(spec_l2Leads.l0 k l0 t141 0)
set_option maxHeartbeats 8000000 in
set_option maxRecDepth 100000 in
theorem spec_l2Leads.calls (k:Nat) (A0:Option Addr) (c0:Nat) (l0:List (S30)) (A1:Option Addr) (c1:Nat) (l1:List (S46)) (r:List Int) (w:World) (hr0:Kd.C k30 w A0 l0.length l0) (hc0:l0.length≤c0) (hr1:Kd.C k46 w A1 l1.length l1) (hc1:l1.length≤c1) (h:spec_l2Leads.f k l0 l1=some r) :
  Calls Tryd.prog 59 #[.slice A0 l0.length c0,.slice A1 l1.length c1] w fun e w'=>∃ v0_:Value,e = .returned (v0_)∧Kd.R (Kd.int .i64) 3 w' w.heap.size (fun _=>True) v0_ r∧Below w.heap.size w w':=by
 have HR0:=Aside0.mk hr0
 have HC0:=Aside0.mk hc0
 clear hr0 hc0
 have HR1:=Aside0.mk hr1
 have HC1:=Aside0.mk hc1
 clear hr1 hc1
 have HB:=Aside0.mk (Below.refl w.heap.size w)
 have H:((spec_TrmFree.f k l1).bind fun t141=>(spec_l2Leads.l0 k l0 t141 0))=some r:=h
 clear h
 replace H:=Option.bind_eq_some_iff.mp H
 obtain ⟨t141,A30,H⟩:=H
 try dsimp only at H
 have A3:=Aside0.mk A30
 clear A30
 have H':=Aside0.mk H
 clear H
 go_enter Tryd.func59,Tryd.ntmps59
 go_wp2_with (first|(go_at_call 48;(with_reducible refine (spec_TrmFree.calls k _ _ l1 t141 _ ?side1 ?side2 A3.out).mono ?_);(case side1=>repeat (first|exact HR1.out|(with_reducible refine Kd.C_alloc ?_ _)|(with_reducible refine Kd.C_drewN ?_ _)|(with_reducible refine Kd.C_drew ?_)));(case side2=>exact HC1.out);rintro e w4 ⟨v142,rfl,ho0,hb⟩;have n0_:=Aside0.mk (Kd.R_lower ho0 (below_size qz5));have n1_:=Aside0.mk (below_step qz5 hb);clear HB;have HO143:=n0_;have HB:=n1_;clear n0_ n1_;(try clear hb);(try clear hb2);(try clear hk);(try clear hi);(try clear ho0)))
 go_loopg [5,6] k (fun kq v5 v6 w'=>∃ (x5_1:List Int) (x6_1:Int),v6 = .int .i64 x6_1∧Aside0 (spec_l2Leads.l0 kq l0 x5_1 x6_1=some r)∧Aside0 (kq≤k)∧Aside0 (Kd.R (Kd.int .i64) 3 w' w.heap.size (fun _=>True) v5 x5_1)∧Aside0 (Below w.heap.size w w'))
 case atStart=>exact ⟨(t141),(0),qz9,H',⟨Nat.le_refl _⟩,⟨by (with_reducible repeat (first|apply Kd.R_alloc|apply Kd.R_drewN|apply Kd.R_drew));exact HO143.out⟩,⟨qz6⟩⟩
 case round=>
  clear H'
  try clear c1
  try clear p2
  try clear c4
  obtain ⟨x5_1,x6_1,rfl,HA,HK1,HO_5,HB⟩:=hrel
  cases gk with
  | zero=>exact absurd HA.out (by simp [spec_l2Leads.l0])
  | succ k1=>
   have H:=HA.out
   clear HA
   simp only [spec_l2Leads.l0] at H
   by_cases c5:x6_1<(x5_1.length:Int)
   ·rw [if_pos c5] at H
    have c5b0:decide (x6_1<(x5_1.length:Int))=true:=decide_eq_true c5
    clear c5
    by_cases c6:0≤x6_1
    ·rw [if_pos c6] at H
     have c6b0:decide (0≤x6_1)=true:=decide_eq_true c6
     clear c6
     replace H:=Option.bind_eq_some_iff.mp H
     obtain ⟨t145,A70,H⟩:=H
     try dsimp only at H
     have A7:=Aside0.mk A70
     clear A70
     replace H:=Option.bind_eq_some_iff.mp H
     obtain ⟨t148,A80,H⟩:=H
     try dsimp only at H
     have A8:=Aside0.mk A80
     clear A80
     have H':=Aside0.mk H
     clear H
     obtain ⟨Ao9,co9,eo9⟩:=Kd.R_slice HO_5.out
     subst eo9
     have p144:0≤(x6_1:Int):=of_decide_eq_true qz7
     have q144:x6_1<(x5_1.length:Int):=of_decide_eq_true qz7
     obtain ⟨ad144,e144,hx144_0⟩:=Kd.at_int (Kd.R_reads' HO_5.out).2.2 x6_1 p144 q144
     cases e144
     replace p144:=eq_true p144
     replace q144:=eq_true q144
     go_wp2_with (first|(go_at_call 92;(with_reducible refine (spec_l2Get.calls k1 (fun k_=>k_<w.heap.size) _ _ l0 (rd x5_1 x6_1) t145 _ ?side1 A7.out).mono ?_);(case side1=>exact Kd.V_mk HC0.out (Kd.F_below (Kd.C_F k30_heap HR0.out) qz5));rintro e w10 ⟨v146,rfl,ho0,hb⟩;have n0_:=Aside0.mk (Kd.R_below qz34 hb);have n1_:=Aside0.mk (Kd.V_lower (Kd.V_mono (ok':=fun k_=>some k_≠(.slice (some ad144) x5_1.length co9:Value).ownBlock) ho0 (fun k_ hk_=>Or.elim hk_ (fun hs_=>fun e_=>Nat.not_le.2 hs_ (Kd.R_base HO_5.out k_ e_.symm)) (fun hn_=>(Kd.fresh' (Kd.R_lt qz34) k_ hn_)))) (below_size qz5));have n2_:=Aside0.mk (below_step qz5 hb);clear HO_5 HB;have HO_5:=n0_;have HO147:=n1_;have HB:=n2_;clear n0_ n1_ n2_;(try clear hb);(try clear hb2);(try clear hk);(try clear hi);(try clear ho0);obtain ⟨Ao11,co11,eo11⟩:=Kd.V_slice HO147.out;subst eo11)|(go_at_call 48;(with_reducible refine (spec_TrmFree.calls k1 _ _ t145 t148 _ ?side1 ?side2 A8.out).mono ?_);(case side1=>repeat (first|exact (Kd.V_reads' HO147.out).2.2|(with_reducible refine Kd.C_alloc ?_ _)|(with_reducible refine Kd.C_drewN ?_ _)|(with_reducible refine Kd.C_drew ?_)));(case side2=>exact (Kd.V_reads' HO147.out).2.1);rintro e w12 ⟨v149,rfl,ho0,hb⟩;have n0_:=Aside0.mk (Kd.R_elder' qz34 (Kd.R_base ho0) hb);have n1_:=Aside0.mk (Kd.V_elder' (by (with_reducible repeat (first|apply Kd.V_alloc|apply Kd.V_drewN|apply Kd.V_drew));exact HO147.out) (Kd.R_base ho0) hb);have n2_:=Aside0.mk (Kd.R_lower (Kd.R_new' ho0 (Kd.R_lt qz34)) (below_size qz5));have n3_:=Aside0.mk (below_step qz5 hb);clear HO_5 HO147 HB;have HO_5:=n0_;have HO147:=n1_;have HO150:=n2_;have HB:=n3_;clear n0_ n1_ n2_ n3_;(try clear hb);(try clear hb2);(try clear hk);(try clear hi);(try clear ho0)))
     go_loopg [5,8] k1 (fun kq v5 v8 w'=>∃ (x5_2:List Int) (x8_2:Int),v8 = .int .i64 x8_2∧Aside0 (spec_l2Leads.l1 kq l0 x5_2 x6_1 t148 x8_2=some r)∧Aside0 (kq≤k1)∧Aside0 (Kd.R (Kd.int .i64) 3 w' w.heap.size (fun k_=>some k_≠(v149:Value).ownBlock) v5 x5_2)∧Aside0 (Kd.R (Kd.int .i64) 3 w' w.heap.size (fun k_=>some k_≠(v5:Value).ownBlock) v149 t148)∧Aside0 (Below w.heap.size w w'))
     case atStart=>exact ⟨(x5_1),(0),qz9,H',⟨Nat.le_refl _⟩,⟨by (with_reducible repeat (first|apply Kd.R_alloc|apply Kd.R_drewN|apply Kd.R_drew));exact Kd.R_mono HO_5.out (fun _ hk=>hk.2)⟩,⟨by (with_reducible repeat (first|apply Kd.R_alloc|apply Kd.R_drewN|apply Kd.R_drew));exact Kd.R_mono HO150.out (fun _ hk=>hk.2)⟩,⟨qz6⟩⟩
     case round=>
      clear H'
      try clear c1
      try clear p1
      try clear q1
      try clear hx1
      try clear p2
      try clear c4
      try clear c5
      try clear c5b0
      try clear c6
      try clear c6b0
      try clear c9
      try clear hx144_0
      try clear p144
      try clear p2
      try clear q144
      obtain ⟨x5_2,x8_2,rfl,HA,HK2,HO_5,HO_7,HB⟩:=hrel
      cases gk with
      | zero=>exact absurd HA.out (by simp [spec_l2Leads.l1])
      | succ k2=>
       have H:=HA.out
       clear HA
       simp only [spec_l2Leads.l1] at H
       by_cases c13:x8_2<(t148.length:Int)
       ·rw [if_pos c13] at H
        have c13b0:decide (x8_2<(t148.length:Int))=true:=decide_eq_true c13
        clear c13
        by_cases c14:0≤x8_2
        ·rw [if_pos c14] at H
         have c14b0:decide (0≤x8_2)=true:=decide_eq_true c14
         clear c14
         replace H:=Option.bind_eq_some_iff.mp H
         obtain ⟨t152,A150,H⟩:=H
         try dsimp only at H
         have A15:=Aside0.mk A150
         clear A150
         by_cases c16:t152=true
         ·subst c16
          have H1:(spec_l2Leads.l1 k2 l0 x5_2 x6_1 t148 (wrap64 (x8_2+1)))=some r:=qz44
          clear H
          have H:=H1
          clear H1
          have H':=Aside0.mk H
          clear H
          obtain ⟨Ao17,co17,eo17⟩:=Kd.R_slice HO_7.out
          subst eo17
          have p151:0≤(x8_2:Int):=of_decide_eq_true qz7
          have q151:x8_2<(t148.length:Int):=of_decide_eq_true qz7
          obtain ⟨ad151,e151,hx151_0⟩:=Kd.at_int (Kd.R_reads' HO_7.out).2.2 x8_2 p151 q151
          cases e151
          replace p151:=eq_true p151
          replace q151:=eq_true q151
          obtain ⟨Ao18,co18,eo18⟩:=Kd.R_slice HO_5.out
          subst eo18
          go_wp2_with (first|(go_at_call 58;(with_reducible refine (spec_l1Has.calls k2 _ _ x5_2 (rd t148 x8_2) true _ ?side1 ?side2 A15.out).mono ?_);(case side1=>exact qz70);(case side2=>exact (Kd.R_reads' HO_5.out).2.1);rintro e w' ⟨rfl,⟨nd,rfl⟩⟩))
          go_roundg k2
          case measure=>have:=HK1.out;have:=HK2.out;omega
          case rel=>exact ⟨(x5_2),(wrap64 (x8_2+1)),qz9,H',⟨by have:=HK1.out;have:=HK2.out;omega⟩,⟨qz34⟩,⟨qz28⟩,⟨qz6⟩⟩
         ·replace c16:=Bool.eq_false_iff.mpr c16
          subst c16
          have H1:(if x5_2.length<17592186044416 then (spec_l2Leads.l1 k2 l0 (x5_2++[rd t148 x8_2]) x6_1 t148 (wrap64 (x8_2+1))) else (none))=some r:=qz22
          clear H
          have H:=H1
          clear H1
          by_cases c19:x5_2.length<17592186044416
          ·rw [if_pos c19] at H
           have LMc19:=Aside0.mk c19
           clear c19
           obtain ⟨y154,hy154⟩:∃ y_:List Int,y_=(x5_2++[rd t148 x8_2]):=⟨_,rfl⟩
           replace H:(spec_l2Leads.l1 k2 l0 y154 x6_1 t148 (wrap64 (x8_2+1)))=some r:=by first|(rw [hy154];exact H)|exact H
           have Ny154:=Aside0.mk hy154
           clear hy154
           have H':=Aside0.mk H
           clear H
           obtain ⟨Ao20,co20,eo20⟩:=Kd.R_slice HO_7.out
           subst eo20
           have p151:0≤(x8_2:Int):=of_decide_eq_true qz7
           have q151:x8_2<(t148.length:Int):=of_decide_eq_true qz7
           obtain ⟨ad151,e151,hx151_0⟩:=Kd.at_int (Kd.R_reads' HO_7.out).2.2 x8_2 p151 q151
           cases e151
           replace p151:=eq_true p151
           replace q151:=eq_true q151
           obtain ⟨Ao21,co21,eo21⟩:=Kd.R_slice HO_5.out
           subst eo21
           go_wp2_with (first|(go_at_call 58;(with_reducible refine (spec_l1Has.calls k2 _ _ x5_2 (rd t148 x8_2) false _ ?side1 ?side2 A15.out).mono ?_);(case side1=>exact qz70);(case side2=>exact (Kd.R_reads' HO_5.out).2.1);rintro e w' ⟨rfl,⟨nd,rfl⟩⟩;have p153:0≤(x8_2:Int):=of_decide_eq_true qz7;have q153:x8_2<(t148.length:Int):=of_decide_eq_true qz7;obtain ⟨ad153,e153,hx153_0⟩:=Kd.at_int (Kd.R_reads' HO_7.out).2.2 x8_2 p153 q153;obtain rfl:ad151=ad153:=(by injection e153);replace p153:=eq_true p153;replace q153:=eq_true q153)|((with_reducible refine gate_builtin (b:=.append) (xs:=#[.tmp 37,.tmp 42]) rfl ?_);at_builtin;refine Kd.R_append (Kd.int .i64) (w0:=w) w.heap.size rfl (.tmp 37) (.tmp 42) 43 3 (.int .i64 0) 8 rfl Tryd.underlying43 info3 rfl (by decide) (by omega) (.slice Ao21 x5_2.length co21) x5_2 (rd t148 x8_2) [.int .i64 (rd t148 x8_2)] (fun k_=>some k_≠(.slice (some ad151) t148.length co20:Value).ownBlock) (fun _=>False) rfl rfl ?aP (fun _ hk=>hk.elim) ?aF ?aO ?aB ?aS ?aL ?_;(case aP=>exact rfl);(case aB=>exact qz5);(case aF=>exact (fun k_ hk=>Kd.fresh' (Kd.R_lt qz28) k_ hk));(case aO=>exact qz34);(case aS=>exact (below_size qz5));(case aL=>have:=LMc19.out;omega);intro v155 w22 ho hb hg hat;rw [← Ny154.out] at ho;have n0_:=Aside0.mk (Kd.R_after (ok:=(fun _=>True)) (by (with_reducible repeat (first|apply Kd.R_alloc|apply Kd.R_drewN|apply Kd.R_drew));exact Kd.R_mono HO_7.out (fun _ hk=>⟨trivial,hk⟩)) hg hat);have n1_:=Aside0.mk (hb);have n2_:=Aside0.mk (ho);clear HO_7 HB HO_5;have HO_7:=n0_;have HB:=n1_;have HO156:=n2_;clear n0_ n1_ n2_ ho hb hg hat))
           go_roundg k2
           case measure=>have:=HK1.out;have:=HK2.out;omega
           case rel=>exact ⟨(y154),(wrap64 (x8_2+1)),qz9,H',⟨by have:=HK1.out;have:=HK2.out;omega⟩,⟨by (with_reducible repeat (first|apply Kd.R_alloc|apply Kd.R_drewN|apply Kd.R_drew));exact HO156.out⟩,⟨qz85⟩,⟨qz6⟩⟩
          ·rw [if_neg c19] at H
           exact absurd H (by simp)
        ·rw [if_neg c14] at H
         exact absurd H (by simp)
       ·rw [if_neg c13] at H
        have c13b0:decide (x8_2<(t148.length:Int))=false:=decide_eq_false c13
        clear c13
        have H':=Aside0.mk H
        clear H
        obtain ⟨Ao23,co23,eo23⟩:=Kd.R_slice HO_7.out
        subst eo23
        go_wp2
        go_roundg k2
        case measure=>have:=HK1.out;have:=HK2.out;omega
        case rel=>exact ⟨(x5_2),(wrap64 (x6_1+1)),qz9,H',⟨by have:=HK1.out;have:=HK2.out;omega⟩,⟨by (with_reducible repeat (first|apply Kd.R_alloc|apply Kd.R_drewN|apply Kd.R_drew));exact Kd.R_mono HO_5.out (fun _ hk=>trivial)⟩,⟨qz6⟩⟩
    ·rw [if_neg c6] at H
     exact absurd H (by simp)
   ·rw [if_neg c5] at H
    have c5b0:decide (x6_1<(x5_1.length:Int))=false:=decide_eq_false c5
    clear c5
    obtain rfl:=Option.some.inj H
    obtain ⟨Ao24,co24,eo24⟩:=Kd.R_slice HO_5.out
    subst eo24
    go_wp2
    go_ret
    exact ⟨_,qz8,qz34,qz6⟩

end Go.Proofs.YtlaicnoikeieeaaDoor.P
