/- Contracts of functions of the program: each as a Lean function, and that its call does what that says; printed by cprint.py (this session) over print.py of the kit. Conditions: the hypotheses of each theorem. -/
import Derived.Test.YtlaicnoikeieeaaDoorVZ
import Derived.Test.YtlaicnoikeieeaaDoorP0
import Derived.Test.YtlaicnoikeieeaaDoorP4
import Derived.Test.YtlaicnoikeieeaaDoorP8
import Derived.Test.YtlaicnoikeieeaaDoorP13
import Derived.Test.YtlaicnoikeieeaaDoorP14
import Derived.Test.YtlaicnoikeieeaaDoorP18
namespace Go.Proofs.YtlaicnoikeieeaaDoor.P
open Go.RowKit Go.Proofs.YtlaicnoikeieeaaDoorW.PrintWords Go.Proofs.YtlaicnoikeieeaaDoorW.PrintLast Go.Proofs.YtlaicnoikeieeaaDoorW.PrintMore
attribute [local go_sem] max2_int min2_int max_two min_two max_three min_three max_four min_four   -- for this text's walks alone
set_option linter.unusedVariables false
set_option linter.unusedSimpArgs false
mutual
def laws_FnSubTwo.j0:Nat→List Int→List Int→Bool→Option (Bool)
 | 0,_,_,_=>none
 | k+1,x0,x1,x34=>if x34=true then (some true) else ((spec_DrawSubUnify.f k x0).bind fun bt462=>((spec_DrawSubUnify.f k x1).bind fun bt471=>((spec_TrmOk.f k bt462.2.1).bind fun t480=>(if t480=true then ((spec_TrmOk.f k bt462.2.2).bind fun t481=>(if t481=true then ((spec_TrmOk.f k bt471.2.1).bind fun t482=>(if t482=true then ((spec_TrmOk.f k bt471.2.2).bind fun t483=>(laws_FnSubTwo.j1 k bt462.2.1 bt462.2.2 bt471.2.1 bt471.2.2 (!t483))) else (laws_FnSubTwo.j1 k bt462.2.1 bt462.2.2 bt471.2.1 bt471.2.2 true))) else (laws_FnSubTwo.j1 k bt462.2.1 bt462.2.2 bt471.2.1 bt471.2.2 true))) else (laws_FnSubTwo.j1 k bt462.2.1 bt462.2.2 bt471.2.1 bt471.2.2 true)))))
def laws_FnSubTwo.j1:Nat→List (S46)→List (S46)→List (S46)→List (S46)→Bool→Option (Bool)
 | 0,_,_,_,_,_=>none
 | k+1,x6,x7,x9,x10,x64=>if x64=true then ((laws_caOk.f).bind fun t484=>(some t484)) else ((impl_SubUnify.f k (([]:List (S30))) x6 x7).bind fun bt488=>((spec_SubUnify.f k (([]:List (S30))) x6 x7).bind fun bt495=>((laws_caBinds.f k bt488.1 bt495.1).bind fun t499=>(if t499=true then (laws_FnSubTwo.j2 k x6 x7 x9 x10 bt488.1 bt488.2 (bt488.2 != bt495.2)) else (laws_FnSubTwo.j2 k x6 x7 x9 x10 bt488.1 bt488.2 true)))))
def laws_FnSubTwo.j2:Nat→List (S46)→List (S46)→List (S46)→List (S46)→List (S30)→Int→Bool→Option (Bool)
 | 0,_,_,_,_,_,_,_=>none
 | k+1,x6,x7,x9,x10,x11,x12,x88=>if x88=true then (some false) else ((impl_SubUnify.f k x11 x9 x10).bind fun bt500=>((impl_SubUnify.f k (([]:List (S30))) x9 x10).bind fun bt507=>((impl_SubUnify.f k bt507.1 x6 x7).bind fun bt511=>(if x12=1 then (laws_FnSubTwo.j3 k x6 x9 bt500.1 x12 bt500.2 bt511.1 bt507.2 bt511.2 (bt500.2 == 1)) else (laws_FnSubTwo.j3 k x6 x9 bt500.1 x12 bt500.2 bt511.1 bt507.2 bt511.2 false)))))
def laws_FnSubTwo.j3:Nat→List (S46)→List (S46)→List (S30)→Int→Int→List (S30)→Int→Int→Bool→Option (Bool)
 | 0,_,_,_,_,_,_,_,_,_=>none
 | k+1,x6,x9,x11,x12,x15,x16,x17,x18,x19=>if x17=1 then (laws_FnSubTwo.j4 k x6 x9 x11 x12 x15 x16 x17 x18 x19 (x18 == 1)) else (laws_FnSubTwo.j4 k x6 x9 x11 x12 x15 x16 x17 x18 x19 false)
def laws_FnSubTwo.j4:Nat→List (S46)→List (S46)→List (S30)→Int→Int→List (S30)→Int→Int→Bool→Bool→Option (Bool)
 | 0,_,_,_,_,_,_,_,_,_,_=>none
 | k+1,x6,x9,x11,x12,x15,x16,x17,x18,x19,x20=>if (x19 != x20)=true then (if x12=3 then (some true) else (if x15=3 then (some true) else (if x17=3 then (some true) else (some (x18 == 3))))) else (if x19=true then (laws_FnSubTwo.l0 k x11 x16 (([x6,x9]:List (List (S46)))) 0) else (some true))
def laws_FnSubTwo.l0:Nat→List (S30)→List (S30)→List (List (S46))→Int→Option (Bool)
 | 0,_,_,_,_=>none
 | k+1,x11,x16,x21,x22=>if x22<(x21.length:Int) then (if 0≤x22 then ((impl_SubFull.f k x11 (rd_L3 x21 x22)).bind fun bt519=>((impl_SubFull.f k x16 (rd_L3 x21 x22)).bind fun bt524=>(if bt519.2=true then (if bt524.2=true then ((impl_TrmCanon.f k bt519.1).bind fun t528=>((impl_TrmCanon.f k bt524.1).bind fun t531=>((laws_caTerm.f k t528 t531).bind fun t534=>(laws_FnSubTwo.j6 k x11 x16 x21 x22 (!t534))))) else (laws_FnSubTwo.j6 k x11 x16 x21 x22 false)) else (laws_FnSubTwo.j6 k x11 x16 x21 x22 false)))) else (none)) else (some true)
def laws_FnSubTwo.j6:Nat→List (S30)→List (S30)→List (List (S46))→Int→Bool→Option (Bool)
 | 0,_,_,_,_,_=>none
 | k+1,x11,x16,x21,x22,x179=>if x179=true then (some false) else (laws_FnSubTwo.l0 k x11 x16 x21 (wrap64 (x22+1)))
end
def laws_FnSubTwo.f (k:Nat) (l0:List Int) (l1:List Int):Option (Bool):=if (l0.length:Int) > 1048576 then (laws_FnSubTwo.j0 k l0 l1 true) else (laws_FnSubTwo.j0 k l0 l1 (decide ((l1.length:Int) > 1048576)))
set_option maxHeartbeats 8000000 in
set_option maxRecDepth 100000 in
theorem laws_FnSubTwo.calls (k:Nat) (A0:Option Addr) (c0:Nat) (l0:List Int) (A1:Option Addr) (c1:Nat) (l1:List Int) (r:Bool) (w:World) (hr0:Kd.C (Kd.int .u8) w A0 l0.length l0) (hc0:l0.length≤c0) (hr1:Kd.C (Kd.int .u8) w A1 l1.length l1) (hc1:l1.length≤c1) (h:laws_FnSubTwo.f k l0 l1=some r) :
  Calls Tryd.prog 17 #[.slice A0 l0.length c0,.slice A1 l1.length c1] w fun e w'=>e = .returned (.bool r)∧Below w.heap.size w w':=by
 have HR0:=Aside0.mk hr0
 have HC0:=Aside0.mk hc0
 clear hr0 hc0
 have HR1:=Aside0.mk hr1
 have HC1:=Aside0.mk hc1
 clear hr1 hc1
 have HB:=Aside0.mk (Below.refl w.heap.size w)
 have H:(if (l0.length:Int) > 1048576 then (laws_FnSubTwo.j0 k l0 l1 true) else (laws_FnSubTwo.j0 k l0 l1 (decide ((l1.length:Int) > 1048576))))=some r:=h
 clear h
 have HC3:=Aside0.mk H
 clear H
 go_enter Tryd.func17,Tryd.ntmps17
 go_upto_region 1 with (fail)
 go_cut [34] (fun v34 wc=>∃ (kq:Nat) (x34_2:Bool),v34 = .bool x34_2∧Aside0 (laws_FnSubTwo.j0 kq l0 l1 x34_2=some r)∧Aside0 (kq≤k)∧Aside0 (Below w.heap.size w wc))
 case first=>
  have H:=HC3.out
  clear HC3
  by_cases c4:(l0.length:Int) > 1048576
  ·rw [if_pos c4] at H
   have c4b0:decide (1048576<(l0.length:Int))=true:=decide_eq_true c4
   have c4b1:decide (1048576<l0.length)=true:=decide_eq_true (by omega)
   clear c4
   (first|rw [c4b0]|(simp only [i64_w,i32_w];rw [c4b0])|skip)
   have H':=Aside0.mk H
   clear H
   go_wp2
   go_meet
   case rel=>exact ⟨_,(true),qz9,H',⟨qz62⟩,⟨qz5⟩⟩
  ·rw [if_neg c4] at H
   have c4b0:decide (1048576<(l0.length:Int))=false:=decide_eq_false c4
   have c4b1:decide (1048576<l0.length)=false:=decide_eq_false (by omega)
   clear c4
   (first|rw [c4b0]|(simp only [i64_w,i32_w];rw [c4b0])|skip)
   have H':=Aside0.mk H
   clear H
   go_wp2
   go_meet
   case rel=>exact ⟨_,(decide ((l1.length:Int) > 1048576)),qz9,H',⟨qz62⟩,⟨qz5⟩⟩
 case rest=>
  clear HC3
  try clear c1
  try clear p2
  try clear c4
  try clear c4b0
  try clear c4b1
  obtain ⟨kq,x34_2,rfl,HA,HJ2,HB⟩:=hcut
  cases kq with
  | zero=>exact absurd HA.out (by simp [laws_FnSubTwo.j0])
  | succ kj2=>
   have H:=HA.out
   clear HA
   simp only [laws_FnSubTwo.j0] at H
   by_cases c5:x34_2=true
   ·subst c5
    have H1:(some true)=some r:=qz40
    clear H
    have H:=H1
    clear H1
    obtain rfl:=Option.some.inj H
    go_wp2
    go_ret
    exact ⟨qz7,qz5⟩
   ·replace c5:=Bool.eq_false_iff.mpr c5
    subst c5
    have H1:((spec_DrawSubUnify.f kj2 l0).bind fun bt462=>((spec_DrawSubUnify.f kj2 l1).bind fun bt471=>((spec_TrmOk.f kj2 bt462.2.1).bind fun t480=>(if t480=true then ((spec_TrmOk.f kj2 bt462.2.2).bind fun t481=>(if t481=true then ((spec_TrmOk.f kj2 bt471.2.1).bind fun t482=>(if t482=true then ((spec_TrmOk.f kj2 bt471.2.2).bind fun t483=>(laws_FnSubTwo.j1 kj2 bt462.2.1 bt462.2.2 bt471.2.1 bt471.2.2 (!t483))) else (laws_FnSubTwo.j1 kj2 bt462.2.1 bt462.2.2 bt471.2.1 bt471.2.2 true))) else (laws_FnSubTwo.j1 kj2 bt462.2.1 bt462.2.2 bt471.2.1 bt471.2.2 true))) else (laws_FnSubTwo.j1 kj2 bt462.2.1 bt462.2.2 bt471.2.1 bt471.2.2 true)))))=some r:=qz20
    clear H
    have H:=H1
    clear H1
    replace H:=Option.bind_eq_some_iff.mp H
    obtain ⟨⟨t462,t463,t464⟩,A60,H⟩:=H
    try dsimp only at H
    have A6:=Aside0.mk A60
    clear A60
    replace H:=Option.bind_eq_some_iff.mp H
    obtain ⟨⟨t471,t472,t473⟩,A70,H⟩:=H
    try dsimp only at H
    have A7:=Aside0.mk A70
    clear A70
    have HC8:=Aside0.mk H
    clear H
    go_upto_region 5 with (first|(go_at_call 43;(with_reducible refine (spec_DrawSubUnify.calls kj2 _ _ l0 t462 t463 t464 _ ?side1 ?side2 A6.out).mono ?_);(case side1=>exact qz36);(case side2=>exact HC0.out);rintro e w9 ⟨v465,v467,v469,rfl,ho0,ho1,ho2,hb⟩;have n0_:=Aside0.mk (Kd.N_lower (Kd.S_N ho0) (below_size qz4));have n1_:=Aside0.mk (Kd.R_lower ho1 (below_size qz4));have n2_:=Aside0.mk (Kd.R_lower ho2 (below_size qz4));have n3_:=Aside0.mk (below_step qz4 hb);clear HB;have HO466:=n0_;have HO468:=n1_;have HO470:=n2_;have HB:=n3_;clear n0_ n1_ n2_ n3_;(try clear hb);(try clear hb2);(try clear hk);(try clear hi);(try clear ho0);(try clear ho1);(try clear ho2))|(go_at_call 43;(with_reducible refine (spec_DrawSubUnify.calls kj2 _ _ l1 t471 t472 t473 _ ?side1 ?side2 A7.out).mono ?_);(case side1=>exact qz53);(case side2=>exact HC1.out);rintro e w10 ⟨v474,v476,v478,rfl,ho0,ho1,ho2,hb⟩;have n0_:=Aside0.mk (Kd.N_below qz38 hb);have n1_:=Aside0.mk (Kd.R_below qz27 hb);have n2_:=Aside0.mk (Kd.R_below qz26 hb);have n3_:=Aside0.mk (Kd.N_lower (Kd.S_N ho0) (below_size qz4));have n4_:=Aside0.mk (Kd.R_lower ho1 (below_size qz4));have n5_:=Aside0.mk (Kd.R_lower ho2 (below_size qz4));have n6_:=Aside0.mk (below_step qz4 hb);clear HO466 HO468 HO470 HB;have HO466:=n0_;have HO468:=n1_;have HO470:=n2_;have HO475:=n3_;have HO477:=n4_;have HO479:=n5_;have HB:=n6_;clear n0_ n1_ n2_ n3_ n4_ n5_ n6_;(try clear hb);(try clear hb2);(try clear hk);(try clear hi);(try clear ho0);(try clear ho1);(try clear ho2)))
    (try simp only [Act.put,List.setIfInBounds_toArray,List.set_cons_zero,List.set_cons_succ])
    go_cut [64] (fun v64 wc=>∃ (kq:Nat) (x64_7:Bool),v64 = .bool x64_7∧Aside0 (laws_FnSubTwo.j1 kq t463 t464 t472 t473 x64_7=some r)∧Aside0 (kq≤kj2)∧Aside0 (Kd.R k46 46 wc w.heap.size (fun _=>True) v467 t463)∧Aside0 (Kd.R k46 46 wc w.heap.size (fun _=>True) v469 t464)∧Aside0 (Kd.R k46 46 wc w.heap.size (fun _=>True) v476 t472)∧Aside0 (Kd.R k46 46 wc w.heap.size (fun _=>True) v478 t473)∧Aside0 (Below w.heap.size w wc))
    case first=>
     have H:=HC8.out
     clear HC8
     replace H:=Option.bind_eq_some_iff.mp H
     obtain ⟨t480,A110,H⟩:=H
     try dsimp only at H
     have A11:=Aside0.mk A110
     clear A110
     by_cases c12:t480=true
     ·subst c12
      have H1:((spec_TrmOk.f kj2 t464).bind fun t481=>(if t481=true then ((spec_TrmOk.f kj2 t472).bind fun t482=>(if t482=true then ((spec_TrmOk.f kj2 t473).bind fun t483=>(laws_FnSubTwo.j1 kj2 t463 t464 t472 t473 (!t483))) else (laws_FnSubTwo.j1 kj2 t463 t464 t472 t473 true))) else (laws_FnSubTwo.j1 kj2 t463 t464 t472 t473 true)))=some r:=qz40
      clear H
      have H:=H1
      clear H1
      replace H:=Option.bind_eq_some_iff.mp H
      obtain ⟨t481,A130,H⟩:=H
      try dsimp only at H
      have A13:=Aside0.mk A130
      clear A130
      by_cases c14:t481=true
      ·subst c14
       have H1:((spec_TrmOk.f kj2 t472).bind fun t482=>(if t482=true then ((spec_TrmOk.f kj2 t473).bind fun t483=>(laws_FnSubTwo.j1 kj2 t463 t464 t472 t473 (!t483))) else (laws_FnSubTwo.j1 kj2 t463 t464 t472 t473 true)))=some r:=qz40
       clear H
       have H:=H1
       clear H1
       replace H:=Option.bind_eq_some_iff.mp H
       obtain ⟨t482,A150,H⟩:=H
       try dsimp only at H
       have A15:=Aside0.mk A150
       clear A150
       by_cases c16:t482=true
       ·subst c16
        have H1:((spec_TrmOk.f kj2 t473).bind fun t483=>(laws_FnSubTwo.j1 kj2 t463 t464 t472 t473 (!t483)))=some r:=qz40
        clear H
        have H:=H1
        clear H1
        replace H:=Option.bind_eq_some_iff.mp H
        obtain ⟨t483,A170,H⟩:=H
        try dsimp only at H
        have A17:=Aside0.mk A170
        clear A170
        have H':=Aside0.mk H
        clear H
        obtain ⟨Ao18,co18,eo18⟩:=Kd.R_slice HO468.out
        subst eo18
        go_wp2_with (first|(go_at_call 30;(with_reducible refine (spec_TrmOk.calls kj2 _ _ t463 true _ ?side1 ?side2 A11.out).mono ?_);(case side1=>exact qz58);(case side2=>exact (Kd.R_reads' HO468.out).2.1);rintro e w19 ⟨rfl,hb⟩;have n0_:=Aside0.mk (Kd.N_below qz38 hb);have n1_:=Aside0.mk (Kd.R_below qz27 hb);have n2_:=Aside0.mk (Kd.R_below qz26 hb);have n3_:=Aside0.mk (Kd.N_below qz42 hb);have n4_:=Aside0.mk (Kd.R_below qz32 hb);have n5_:=Aside0.mk (Kd.R_below qz31 hb);have n6_:=Aside0.mk (below_step qz4 hb);clear HO466 HO468 HO470 HO475 HO477 HO479 HB;have HO466:=n0_;have HO468:=n1_;have HO470:=n2_;have HO475:=n3_;have HO477:=n4_;have HO479:=n5_;have HB:=n6_;clear n0_ n1_ n2_ n3_ n4_ n5_ n6_;(try clear hb);(try clear hb2);(try clear hk);(try clear hi);obtain ⟨Ao20,co20,eo20⟩:=Kd.R_slice HO470.out;subst eo20)|(go_at_call 30;(with_reducible refine (spec_TrmOk.calls kj2 _ _ t464 true _ ?side1 ?side2 A13.out).mono ?_);(case side1=>exact qz68);(case side2=>exact (Kd.R_reads' HO470.out).2.1);rintro e w21 ⟨rfl,hb⟩;have n0_:=Aside0.mk (Kd.N_below qz38 hb);have n1_:=Aside0.mk (Kd.R_below qz27 hb);have n2_:=Aside0.mk (Kd.R_below qz26 hb);have n3_:=Aside0.mk (Kd.N_below qz42 hb);have n4_:=Aside0.mk (Kd.R_below qz32 hb);have n5_:=Aside0.mk (Kd.R_below qz31 hb);have n6_:=Aside0.mk (below_step qz4 hb);clear HO466 HO468 HO470 HO475 HO477 HO479 HB;have HO466:=n0_;have HO468:=n1_;have HO470:=n2_;have HO475:=n3_;have HO477:=n4_;have HO479:=n5_;have HB:=n6_;clear n0_ n1_ n2_ n3_ n4_ n5_ n6_;(try clear hb);(try clear hb2);(try clear hk);(try clear hi);obtain ⟨Ao22,co22,eo22⟩:=Kd.R_slice HO477.out;subst eo22)|(go_at_call 30;(with_reducible refine (spec_TrmOk.calls kj2 _ _ t472 true _ ?side1 ?side2 A15.out).mono ?_);(case side1=>exact qz94);(case side2=>exact (Kd.R_reads' HO477.out).2.1);rintro e w23 ⟨rfl,hb⟩;have n0_:=Aside0.mk (Kd.N_below qz38 hb);have n1_:=Aside0.mk (Kd.R_below qz27 hb);have n2_:=Aside0.mk (Kd.R_below qz26 hb);have n3_:=Aside0.mk (Kd.N_below qz42 hb);have n4_:=Aside0.mk (Kd.R_below qz32 hb);have n5_:=Aside0.mk (Kd.R_below qz31 hb);have n6_:=Aside0.mk (below_step qz4 hb);clear HO466 HO468 HO470 HO475 HO477 HO479 HB;have HO466:=n0_;have HO468:=n1_;have HO470:=n2_;have HO475:=n3_;have HO477:=n4_;have HO479:=n5_;have HB:=n6_;clear n0_ n1_ n2_ n3_ n4_ n5_ n6_;(try clear hb);(try clear hb2);(try clear hk);(try clear hi);obtain ⟨Ao24,co24,eo24⟩:=Kd.R_slice HO479.out;subst eo24)|(go_at_call 30;(with_reducible refine (spec_TrmOk.calls kj2 _ _ t473 t483 _ ?side1 ?side2 A17.out).mono ?_);(case side1=>repeat (first|exact (Kd.R_reads' HO479.out).2.2|(with_reducible refine Kd.C_alloc ?_ _)|(with_reducible refine Kd.C_drewN ?_ _)|(with_reducible refine Kd.C_drew ?_)));(case side2=>exact (Kd.R_reads' HO479.out).2.1);rintro e w25 ⟨rfl,hb⟩;have n0_:=Aside0.mk (Kd.N_below qz38 hb);have n1_:=Aside0.mk (Kd.R_below qz27 hb);have n2_:=Aside0.mk (Kd.R_below qz26 hb);have n3_:=Aside0.mk (Kd.N_below qz42 hb);have n4_:=Aside0.mk (Kd.R_below qz32 hb);have n5_:=Aside0.mk (Kd.R_below qz31 hb);have n6_:=Aside0.mk (below_step qz4 hb);clear HO466 HO468 HO470 HO475 HO477 HO479 HB;have HO466:=n0_;have HO468:=n1_;have HO470:=n2_;have HO475:=n3_;have HO477:=n4_;have HO479:=n5_;have HB:=n6_;clear n0_ n1_ n2_ n3_ n4_ n5_ n6_;(try clear hb);(try clear hb2);(try clear hk);(try clear hi)))
        go_meet
        case rel=>exact ⟨_,(!t483),qz9,H',⟨qz105⟩,⟨qz27⟩,⟨qz26⟩,⟨qz32⟩,⟨qz31⟩,⟨qz5⟩⟩
       ·replace c16:=Bool.eq_false_iff.mpr c16
        subst c16
        have H1:(laws_FnSubTwo.j1 kj2 t463 t464 t472 t473 true)=some r:=qz20
        clear H
        have H:=H1
        clear H1
        have H':=Aside0.mk H
        clear H
        obtain ⟨Ao26,co26,eo26⟩:=Kd.R_slice HO468.out
        subst eo26
        go_wp2_with (first|(go_at_call 30;(with_reducible refine (spec_TrmOk.calls kj2 _ _ t463 true _ ?side1 ?side2 A11.out).mono ?_);(case side1=>exact qz58);(case side2=>exact (Kd.R_reads' HO468.out).2.1);rintro e w27 ⟨rfl,hb⟩;have n0_:=Aside0.mk (Kd.N_below qz38 hb);have n1_:=Aside0.mk (Kd.R_below qz27 hb);have n2_:=Aside0.mk (Kd.R_below qz26 hb);have n3_:=Aside0.mk (Kd.N_below qz42 hb);have n4_:=Aside0.mk (Kd.R_below qz32 hb);have n5_:=Aside0.mk (Kd.R_below qz31 hb);have n6_:=Aside0.mk (below_step qz4 hb);clear HO466 HO468 HO470 HO475 HO477 HO479 HB;have HO466:=n0_;have HO468:=n1_;have HO470:=n2_;have HO475:=n3_;have HO477:=n4_;have HO479:=n5_;have HB:=n6_;clear n0_ n1_ n2_ n3_ n4_ n5_ n6_;(try clear hb);(try clear hb2);(try clear hk);(try clear hi);obtain ⟨Ao28,co28,eo28⟩:=Kd.R_slice HO470.out;subst eo28)|(go_at_call 30;(with_reducible refine (spec_TrmOk.calls kj2 _ _ t464 true _ ?side1 ?side2 A13.out).mono ?_);(case side1=>exact qz68);(case side2=>exact (Kd.R_reads' HO470.out).2.1);rintro e w29 ⟨rfl,hb⟩;have n0_:=Aside0.mk (Kd.N_below qz38 hb);have n1_:=Aside0.mk (Kd.R_below qz27 hb);have n2_:=Aside0.mk (Kd.R_below qz26 hb);have n3_:=Aside0.mk (Kd.N_below qz42 hb);have n4_:=Aside0.mk (Kd.R_below qz32 hb);have n5_:=Aside0.mk (Kd.R_below qz31 hb);have n6_:=Aside0.mk (below_step qz4 hb);clear HO466 HO468 HO470 HO475 HO477 HO479 HB;have HO466:=n0_;have HO468:=n1_;have HO470:=n2_;have HO475:=n3_;have HO477:=n4_;have HO479:=n5_;have HB:=n6_;clear n0_ n1_ n2_ n3_ n4_ n5_ n6_;(try clear hb);(try clear hb2);(try clear hk);(try clear hi);obtain ⟨Ao30,co30,eo30⟩:=Kd.R_slice HO477.out;subst eo30)|(go_at_call 30;(with_reducible refine (spec_TrmOk.calls kj2 _ _ t472 false _ ?side1 ?side2 A15.out).mono ?_);(case side1=>exact qz94);(case side2=>exact (Kd.R_reads' HO477.out).2.1);rintro e w31 ⟨rfl,hb⟩;have n0_:=Aside0.mk (Kd.N_below qz38 hb);have n1_:=Aside0.mk (Kd.R_below qz27 hb);have n2_:=Aside0.mk (Kd.R_below qz26 hb);have n3_:=Aside0.mk (Kd.N_below qz42 hb);have n4_:=Aside0.mk (Kd.R_below qz32 hb);have n5_:=Aside0.mk (Kd.R_below qz31 hb);have n6_:=Aside0.mk (below_step qz4 hb);clear HO466 HO468 HO470 HO475 HO477 HO479 HB;have HO466:=n0_;have HO468:=n1_;have HO470:=n2_;have HO475:=n3_;have HO477:=n4_;have HO479:=n5_;have HB:=n6_;clear n0_ n1_ n2_ n3_ n4_ n5_ n6_;(try clear hb);(try clear hb2);(try clear hk);(try clear hi)))
        go_meet
        case rel=>exact ⟨_,(true),qz9,H',⟨qz105⟩,⟨qz27⟩,⟨qz26⟩,⟨qz32⟩,⟨qz31⟩,⟨qz5⟩⟩
      ·replace c14:=Bool.eq_false_iff.mpr c14
       subst c14
       have H1:(laws_FnSubTwo.j1 kj2 t463 t464 t472 t473 true)=some r:=qz20
       clear H
       have H:=H1
       clear H1
       have H':=Aside0.mk H
       clear H
       obtain ⟨Ao32,co32,eo32⟩:=Kd.R_slice HO468.out
       subst eo32
       go_wp2_with (first|(go_at_call 30;(with_reducible refine (spec_TrmOk.calls kj2 _ _ t463 true _ ?side1 ?side2 A11.out).mono ?_);(case side1=>exact qz58);(case side2=>exact (Kd.R_reads' HO468.out).2.1);rintro e w33 ⟨rfl,hb⟩;have n0_:=Aside0.mk (Kd.N_below qz38 hb);have n1_:=Aside0.mk (Kd.R_below qz27 hb);have n2_:=Aside0.mk (Kd.R_below qz26 hb);have n3_:=Aside0.mk (Kd.N_below qz42 hb);have n4_:=Aside0.mk (Kd.R_below qz32 hb);have n5_:=Aside0.mk (Kd.R_below qz31 hb);have n6_:=Aside0.mk (below_step qz4 hb);clear HO466 HO468 HO470 HO475 HO477 HO479 HB;have HO466:=n0_;have HO468:=n1_;have HO470:=n2_;have HO475:=n3_;have HO477:=n4_;have HO479:=n5_;have HB:=n6_;clear n0_ n1_ n2_ n3_ n4_ n5_ n6_;(try clear hb);(try clear hb2);(try clear hk);(try clear hi);obtain ⟨Ao34,co34,eo34⟩:=Kd.R_slice HO470.out;subst eo34)|(go_at_call 30;(with_reducible refine (spec_TrmOk.calls kj2 _ _ t464 false _ ?side1 ?side2 A13.out).mono ?_);(case side1=>exact qz68);(case side2=>exact (Kd.R_reads' HO470.out).2.1);rintro e w35 ⟨rfl,hb⟩;have n0_:=Aside0.mk (Kd.N_below qz38 hb);have n1_:=Aside0.mk (Kd.R_below qz27 hb);have n2_:=Aside0.mk (Kd.R_below qz26 hb);have n3_:=Aside0.mk (Kd.N_below qz42 hb);have n4_:=Aside0.mk (Kd.R_below qz32 hb);have n5_:=Aside0.mk (Kd.R_below qz31 hb);have n6_:=Aside0.mk (below_step qz4 hb);clear HO466 HO468 HO470 HO475 HO477 HO479 HB;have HO466:=n0_;have HO468:=n1_;have HO470:=n2_;have HO475:=n3_;have HO477:=n4_;have HO479:=n5_;have HB:=n6_;clear n0_ n1_ n2_ n3_ n4_ n5_ n6_;(try clear hb);(try clear hb2);(try clear hk);(try clear hi)))
       go_meet
       case rel=>exact ⟨_,(true),qz9,H',⟨qz105⟩,⟨qz27⟩,⟨qz26⟩,⟨qz32⟩,⟨qz31⟩,⟨qz5⟩⟩
     ·replace c12:=Bool.eq_false_iff.mpr c12
      subst c12
      have H1:(laws_FnSubTwo.j1 kj2 t463 t464 t472 t473 true)=some r:=qz20
      clear H
      have H:=H1
      clear H1
      have H':=Aside0.mk H
      clear H
      obtain ⟨Ao36,co36,eo36⟩:=Kd.R_slice HO468.out
      subst eo36
      go_wp2_with (first|(go_at_call 30;(with_reducible refine (spec_TrmOk.calls kj2 _ _ t463 false _ ?side1 ?side2 A11.out).mono ?_);(case side1=>exact qz58);(case side2=>exact (Kd.R_reads' HO468.out).2.1);rintro e w37 ⟨rfl,hb⟩;have n0_:=Aside0.mk (Kd.N_below qz38 hb);have n1_:=Aside0.mk (Kd.R_below qz27 hb);have n2_:=Aside0.mk (Kd.R_below qz26 hb);have n3_:=Aside0.mk (Kd.N_below qz42 hb);have n4_:=Aside0.mk (Kd.R_below qz32 hb);have n5_:=Aside0.mk (Kd.R_below qz31 hb);have n6_:=Aside0.mk (below_step qz4 hb);clear HO466 HO468 HO470 HO475 HO477 HO479 HB;have HO466:=n0_;have HO468:=n1_;have HO470:=n2_;have HO475:=n3_;have HO477:=n4_;have HO479:=n5_;have HB:=n6_;clear n0_ n1_ n2_ n3_ n4_ n5_ n6_;(try clear hb);(try clear hb2);(try clear hk);(try clear hi)))
      go_meet
      case rel=>exact ⟨_,(true),qz9,H',⟨qz105⟩,⟨qz27⟩,⟨qz26⟩,⟨qz32⟩,⟨qz31⟩,⟨qz5⟩⟩
    case rest=>
     clear HC8
     try clear c1
     try clear p2
     try clear c3
     try clear c4
     try clear c4b0
     try clear c4b1
     try clear c5
     try clear c12
     try clear c14
     try clear c16
     try clear c17
     try clear c30
     try clear p2
     obtain ⟨kq,x64_7,rfl,HA,HJ7,HO_6,HO_7,HO_9,HO_10,HB⟩:=hcut
     cases kq with
     | zero=>exact absurd HA.out (by simp [laws_FnSubTwo.j1])
     | succ kj7=>
      have H:=HA.out
      clear HA
      simp only [laws_FnSubTwo.j1] at H
      by_cases c38:x64_7=true
      ·subst c38
       have H1:((laws_caOk.f).bind fun t484=>(some t484))=some r:=qz40
       clear H
       have H:=H1
       clear H1
       replace H:=Option.bind_eq_some_iff.mp H
       obtain ⟨t484,A390,H⟩:=H
       try dsimp only at H
       have A39:=Aside0.mk A390
       clear A390
       obtain rfl:=Option.some.inj H
       go_wp2_with (first|(go_at_call 22;(with_reducible refine (laws_caOk.calls  t484 _ A39.out).mono ?_);rintro e w40 ⟨rfl,hb⟩;have n0_:=Aside0.mk (Kd.R_below qz10 hb);have n1_:=Aside0.mk (Kd.R_below qz18 hb);have n2_:=Aside0.mk (Kd.R_below qz28 hb);have n3_:=Aside0.mk (Kd.R_below qz37 hb);have n4_:=Aside0.mk (below_step qz4 hb);clear HO_6 HO_7 HO_9 HO_10 HB;have HO_6:=n0_;have HO_7:=n1_;have HO_9:=n2_;have HO_10:=n3_;have HB:=n4_;clear n0_ n1_ n2_ n3_ n4_;(try clear hb);(try clear hb2);(try clear hk);(try clear hi)))
       go_ret
       exact ⟨qz7,qz5⟩
      ·replace c38:=Bool.eq_false_iff.mpr c38
       subst c38
       have H1:((impl_SubUnify.f kj7 (([]:List (S30))) t463 t464).bind fun bt488=>((spec_SubUnify.f kj7 (([]:List (S30))) t463 t464).bind fun bt495=>((laws_caBinds.f kj7 bt488.1 bt495.1).bind fun t499=>(if t499=true then (laws_FnSubTwo.j2 kj7 t463 t464 t472 t473 bt488.1 bt488.2 (bt488.2 != bt495.2)) else (laws_FnSubTwo.j2 kj7 t463 t464 t472 t473 bt488.1 bt488.2 true)))))=some r:=qz20
       clear H
       have H:=H1
       clear H1
       obtain ⟨y485,hy485⟩:∃ y_:List (S30),y_=(([]:List (S30))):=⟨_,rfl⟩
       replace H:((impl_SubUnify.f kj7 y485 t463 t464).bind fun bt488=>((spec_SubUnify.f kj7 (([]:List (S30))) t463 t464).bind fun bt495=>((laws_caBinds.f kj7 bt488.1 bt495.1).bind fun t499=>(if t499=true then (laws_FnSubTwo.j2 kj7 t463 t464 t472 t473 bt488.1 bt488.2 (bt488.2 != bt495.2)) else (laws_FnSubTwo.j2 kj7 t463 t464 t472 t473 bt488.1 bt488.2 true)))))=some r:=by first|(rw [hy485];exact H)|exact H
       have Ny485:=Aside0.mk hy485
       clear hy485
       replace H:=Option.bind_eq_some_iff.mp H
       obtain ⟨⟨t488,t489⟩,A410,H⟩:=H
       try dsimp only at H
       have A41:=Aside0.mk A410
       clear A410
       obtain ⟨y492,hy492⟩:∃ y_:List (S30),y_=(([]:List (S30))):=⟨_,rfl⟩
       replace H:((spec_SubUnify.f kj7 y492 t463 t464).bind fun bt495=>((laws_caBinds.f kj7 t488 bt495.1).bind fun t499=>(if t499=true then (laws_FnSubTwo.j2 kj7 t463 t464 t472 t473 t488 t489 (t489 != bt495.2)) else (laws_FnSubTwo.j2 kj7 t463 t464 t472 t473 t488 t489 true))))=some r:=by first|(rw [hy492];exact H)|exact H
       have Ny492:=Aside0.mk hy492
       clear hy492
       replace H:=Option.bind_eq_some_iff.mp H
       obtain ⟨⟨t495,t496⟩,A420,H⟩:=H
       try dsimp only at H
       have A42:=Aside0.mk A420
       clear A420
       have HC43:=Aside0.mk H
       clear H
       go_upto_region 9 with (first|((with_reducible refine gate_dst (N:=67) rfl ?_);(try (refine gate_guard (by rfl) ?_;dsimp only));refine Kd.N_lit k30 _ 30 ?hg (N':=67) ?hd (xs:=([]:List (S30))) (inner:=[]) (ok:=(fun _=>True)) (okp:=(fun _=>True)) ?hr ?hp (fun _ hk=>hk) trivial (Below.refl _ _) (Nat.le_refl _) (by simp) ?_;(case hd=>rfl);(case hg=>rfl);(case hr=>first|(go_simp;done)|(go_simp;rfl));(case hp=>exact (Reps.none _ _));intro v486 w44 ho45 hb hg_ hnew_;clear hg_ hnew_;(first|rw [← Ny485.out] at ho45|(simp only [Int.reduceToNat] at ho45;rw [← Ny485.out] at ho45));have n0_:=Aside0.mk (Kd.R_below qz10 hb);have n1_:=Aside0.mk (Kd.R_below qz18 hb);have n2_:=Aside0.mk (Kd.R_below qz28 hb);have n3_:=Aside0.mk (Kd.R_below qz37 hb);have n4_:=Aside0.mk (Kd.N_lower ho45 (below_size qz4));have n5_:=Aside0.mk (below_step qz4 hb);clear HO_6 HO_7 HO_9 HO_10 HB;have HO_6:=n0_;have HO_7:=n1_;have HO_9:=n2_;have HO_10:=n3_;have HO487:=n4_;have HB:=n5_;clear n0_ n1_ n2_ n3_ n4_ n5_ hb ho45;obtain ⟨Ao46,co46,eo46⟩:=Kd.N_slice HO487.out;subst eo46;obtain ⟨Ao47,co47,eo47⟩:=Kd.R_slice HO_6.out;subst eo47;obtain ⟨Ao48,co48,eo48⟩:=Kd.R_slice HO_7.out;subst eo48)|(go_at_call 31;(with_reducible refine (impl_SubUnify.calls kj7 _ _ y485 _ _ t463 _ _ t464 t488 t489 _ ?side1 ?side2 ?side3 ?side4 ?side5 ?side6 A41.out).mono ?_);(case side1=>repeat (first|exact (Kd.N_reads' HO487.out).2.2|(with_reducible refine Kd.C_alloc ?_ _)|(with_reducible refine Kd.C_drewN ?_ _)|(with_reducible refine Kd.C_drew ?_)));(case side2=>exact (Kd.N_reads' HO487.out).2.1);(case side3=>exact qz70);(case side4=>exact (Kd.R_reads' HO_6.out).2.1);(case side5=>exact qz69);(case side6=>exact (Kd.R_reads' HO_7.out).2.1);rintro e w49 ⟨v490,rfl,ho0,hb⟩;have n0_:=Aside0.mk (Kd.R_below qz10 hb);have n1_:=Aside0.mk (Kd.R_below qz18 hb);have n2_:=Aside0.mk (Kd.R_below qz28 hb);have n3_:=Aside0.mk (Kd.R_below qz37 hb);have n4_:=Aside0.mk (Kd.N_below qz86 hb);have n5_:=Aside0.mk (Kd.N_lower (Kd.S_N ho0) (below_size qz4));have n6_:=Aside0.mk (below_step qz4 hb);clear HO_6 HO_7 HO_9 HO_10 HO487 HB;have HO_6:=n0_;have HO_7:=n1_;have HO_9:=n2_;have HO_10:=n3_;have HO487:=n4_;have HO491:=n5_;have HB:=n6_;clear n0_ n1_ n2_ n3_ n4_ n5_ n6_;(try clear hb);(try clear hb2);(try clear hk);(try clear hi);(try clear ho0))|((with_reducible refine gate_dst (N:=74) rfl ?_);(try (refine gate_guard (by rfl) ?_;dsimp only));refine Kd.N_lit k30 _ 30 ?hg (N':=74) ?hd (xs:=([]:List (S30))) (inner:=[]) (ok:=(fun _=>True)) (okp:=(fun _=>True)) ?hr ?hp (fun _ hk=>hk) trivial (Below.refl _ _) (Nat.le_refl _) (by simp) ?_;(case hd=>rfl);(case hg=>rfl);(case hr=>first|(go_simp;done)|(go_simp;rfl));(case hp=>exact (Reps.none _ _));intro v493 w50 ho51 hb hg_ hnew_;clear hg_ hnew_;(first|rw [← Ny492.out] at ho51|(simp only [Int.reduceToNat] at ho51;rw [← Ny492.out] at ho51));have n0_:=Aside0.mk (Kd.R_below qz10 hb);have n1_:=Aside0.mk (Kd.R_below qz18 hb);have n2_:=Aside0.mk (Kd.R_below qz28 hb);have n3_:=Aside0.mk (Kd.R_below qz37 hb);have n4_:=Aside0.mk (Kd.N_below qz86 hb);have n5_:=Aside0.mk (Kd.N_below qz76 hb);have n6_:=Aside0.mk (Kd.N_lower ho51 (below_size qz4));have n7_:=Aside0.mk (below_step qz4 hb);clear HO_6 HO_7 HO_9 HO_10 HO487 HO491 HB;have HO_6:=n0_;have HO_7:=n1_;have HO_9:=n2_;have HO_10:=n3_;have HO487:=n4_;have HO491:=n5_;have HO494:=n6_;have HB:=n7_;clear n0_ n1_ n2_ n3_ n4_ n5_ n6_ n7_ hb ho51;obtain ⟨Ao52,co52,eo52⟩:=Kd.N_slice HO494.out;subst eo52)|(go_at_call 47;(with_reducible refine (spec_SubUnify.calls kj7 _ _ y492 _ _ t463 _ _ t464 t495 t496 _ ?side1 ?side2 ?side3 ?side4 ?side5 ?side6 A42.out).mono ?_);(case side1=>repeat (first|exact (Kd.N_reads' HO494.out).2.2|(with_reducible refine Kd.C_alloc ?_ _)|(with_reducible refine Kd.C_drewN ?_ _)|(with_reducible refine Kd.C_drew ?_)));(case side2=>exact (Kd.N_reads' HO494.out).2.1);(case side3=>exact qz70);(case side4=>exact (Kd.R_reads' HO_6.out).2.1);(case side5=>exact qz69);(case side6=>exact (Kd.R_reads' HO_7.out).2.1);rintro e w53 ⟨v497,rfl,ho0,hb⟩;have n0_:=Aside0.mk (Kd.R_below qz10 hb);have n1_:=Aside0.mk (Kd.R_below qz18 hb);have n2_:=Aside0.mk (Kd.R_below qz28 hb);have n3_:=Aside0.mk (Kd.R_below qz37 hb);have n4_:=Aside0.mk (Kd.N_below qz86 hb);have n5_:=Aside0.mk (Kd.N_below qz76 hb);have n6_:=Aside0.mk (Kd.N_below (by (with_reducible repeat (first|apply Kd.N_alloc|apply Kd.N_drewN|apply Kd.N_drew));exact HO494.out) hb);have n7_:=Aside0.mk (Kd.N_lower (Kd.S_N ho0) (below_size qz4));have n8_:=Aside0.mk (below_step qz4 hb);clear HO_6 HO_7 HO_9 HO_10 HO487 HO491 HO494 HB;have HO_6:=n0_;have HO_7:=n1_;have HO_9:=n2_;have HO_10:=n3_;have HO487:=n4_;have HO491:=n5_;have HO494:=n6_;have HO498:=n7_;have HB:=n8_;clear n0_ n1_ n2_ n3_ n4_ n5_ n6_ n7_ n8_;(try clear hb);(try clear hb2);(try clear hk);(try clear hi);(try clear ho0)))
       (try simp only [Act.put,List.setIfInBounds_toArray,List.set_cons_zero,List.set_cons_succ])
       go_cut [88] (fun v88 wc=>∃ (kq:Nat) (x88_42:Bool),v88 = .bool x88_42∧Aside0 (laws_FnSubTwo.j2 kq t463 t464 t472 t473 t488 t489 x88_42=some r)∧Aside0 (kq≤kj7)∧Aside0 (Kd.R k46 46 wc w.heap.size (fun _=>True) (.slice Ao47 t463.length co47) t463)∧Aside0 (Kd.R k46 46 wc w.heap.size (fun _=>True) (.slice Ao48 t464.length co48) t464)∧Aside0 (Kd.R k46 46 wc w.heap.size (fun _=>True) v476 t472)∧Aside0 (Kd.R k46 46 wc w.heap.size (fun _=>True) v478 t473)∧Aside0 (Kd.N k30 30 wc w.heap.size (fun _=>True) v490 t488)∧Aside0 (Below w.heap.size w wc))
       case first=>
        have H:=HC43.out
        clear HC43
        replace H:=Option.bind_eq_some_iff.mp H
        obtain ⟨t499,A540,H⟩:=H
        try dsimp only at H
        have A54:=Aside0.mk A540
        clear A540
        by_cases c55:t499=true
        ·subst c55
         have H1:(laws_FnSubTwo.j2 kj7 t463 t464 t472 t473 t488 t489 (t489 != t496))=some r:=qz40
         clear H
         have H:=H1
         clear H1
         have H':=Aside0.mk H
         clear H
         obtain ⟨Ao56,co56,eo56⟩:=Kd.N_slice HO491.out
         subst eo56
         obtain ⟨Ao57,co57,eo57⟩:=Kd.N_slice HO498.out
         subst eo57
         go_wp2_with (first|(go_at_call 44;(with_reducible refine (laws_caBinds.calls kj7 _ _ t488 _ _ t495 true _ ?side1 ?side2 ?side3 ?side4 A54.out).mono ?_);(case side1=>exact qz97);(case side2=>exact (Kd.N_reads' HO491.out).2.1);(case side3=>exact qz96);(case side4=>exact (Kd.N_reads' HO498.out).2.1);rintro e w' ⟨rfl,⟨nd,rfl⟩⟩))
         go_meet
         case rel=>exact ⟨_,((t489 != t496)),qz9,H',⟨by have:=HJ2.out;have:=HJ7.out;first|omega|exact Nat.le_refl _⟩,⟨qz10⟩,⟨qz18⟩,⟨qz28⟩,⟨qz37⟩,⟨qz76⟩,⟨qz5⟩⟩
        ·replace c55:=Bool.eq_false_iff.mpr c55
         subst c55
         have H1:(laws_FnSubTwo.j2 kj7 t463 t464 t472 t473 t488 t489 true)=some r:=qz20
         clear H
         have H:=H1
         clear H1
         have H':=Aside0.mk H
         clear H
         obtain ⟨Ao58,co58,eo58⟩:=Kd.N_slice HO491.out
         subst eo58
         obtain ⟨Ao59,co59,eo59⟩:=Kd.N_slice HO498.out
         subst eo59
         go_wp2_with (first|(go_at_call 44;(with_reducible refine (laws_caBinds.calls kj7 _ _ t488 _ _ t495 false _ ?side1 ?side2 ?side3 ?side4 A54.out).mono ?_);(case side1=>exact qz97);(case side2=>exact (Kd.N_reads' HO491.out).2.1);(case side3=>exact qz96);(case side4=>exact (Kd.N_reads' HO498.out).2.1);rintro e w' ⟨rfl,⟨nd,rfl⟩⟩))
         go_meet
         case rel=>exact ⟨_,(true),qz9,H',⟨by have:=HJ2.out;have:=HJ7.out;first|omega|exact Nat.le_refl _⟩,⟨qz10⟩,⟨qz18⟩,⟨qz28⟩,⟨qz37⟩,⟨qz76⟩,⟨qz5⟩⟩
       case rest=>
        clear HC43
        try clear c1
        try clear c2
        try clear p2
        try clear c3
        try clear c4
        try clear c4b0
        try clear c4b1
        try clear c5
        try clear c12
        try clear c14
        try clear c16
        try clear c17
        try clear c22
        try clear c30
        try clear c31
        try clear c38
        try clear c43
        try clear c44
        try clear c47
        try clear c55
        try clear p2
        obtain ⟨kq,x88_42,rfl,HA,HJ42,HO_6,HO_7,HO_9,HO_10,HO_11,HB⟩:=hcut
        cases kq with
        | zero=>exact absurd HA.out (by simp [laws_FnSubTwo.j2])
        | succ kj42=>
         have H:=HA.out
         clear HA
         simp only [laws_FnSubTwo.j2] at H
         by_cases c60:x88_42=true
         ·subst c60
          have H1:(some false)=some r:=qz40
          clear H
          have H:=H1
          clear H1
          obtain rfl:=Option.some.inj H
          go_wp2
          go_ret
          exact ⟨qz7,qz5⟩
         ·replace c60:=Bool.eq_false_iff.mpr c60
          subst c60
          have H1:((impl_SubUnify.f kj42 t488 t472 t473).bind fun bt500=>((impl_SubUnify.f kj42 (([]:List (S30))) t472 t473).bind fun bt507=>((impl_SubUnify.f kj42 bt507.1 t463 t464).bind fun bt511=>(if t489=1 then (laws_FnSubTwo.j3 kj42 t463 t472 bt500.1 t489 bt500.2 bt511.1 bt507.2 bt511.2 (bt500.2 == 1)) else (laws_FnSubTwo.j3 kj42 t463 t472 bt500.1 t489 bt500.2 bt511.1 bt507.2 bt511.2 false)))))=some r:=qz20
          clear H
          have H:=H1
          clear H1
          replace H:=Option.bind_eq_some_iff.mp H
          obtain ⟨⟨t500,t501⟩,A610,H⟩:=H
          try dsimp only at H
          have A61:=Aside0.mk A610
          clear A610
          obtain ⟨y504,hy504⟩:∃ y_:List (S30),y_=(([]:List (S30))):=⟨_,rfl⟩
          replace H:((impl_SubUnify.f kj42 y504 t472 t473).bind fun bt507=>((impl_SubUnify.f kj42 bt507.1 t463 t464).bind fun bt511=>(if t489=1 then (laws_FnSubTwo.j3 kj42 t463 t472 t500 t489 t501 bt511.1 bt507.2 bt511.2 (t501 == 1)) else (laws_FnSubTwo.j3 kj42 t463 t472 t500 t489 t501 bt511.1 bt507.2 bt511.2 false))))=some r:=by first|(rw [hy504];exact H)|exact H
          have Ny504:=Aside0.mk hy504
          clear hy504
          replace H:=Option.bind_eq_some_iff.mp H
          obtain ⟨⟨t507,t508⟩,A620,H⟩:=H
          try dsimp only at H
          have A62:=Aside0.mk A620
          clear A620
          replace H:=Option.bind_eq_some_iff.mp H
          obtain ⟨⟨t511,t512⟩,A630,H⟩:=H
          try dsimp only at H
          have A63:=Aside0.mk A630
          clear A630
          have HC64:=Aside0.mk H
          clear H
          obtain ⟨Ao65,co65,eo65⟩:=Kd.N_slice HO_11.out
          subst eo65
          obtain ⟨Ao66,co66,eo66⟩:=Kd.R_slice HO_9.out
          subst eo66
          obtain ⟨Ao67,co67,eo67⟩:=Kd.R_slice HO_10.out
          subst eo67
          go_upto_region 14 with (first|(go_at_call 31;(with_reducible refine (impl_SubUnify.calls kj42 _ _ t488 _ _ t472 _ _ t473 t500 t501 _ ?side1 ?side2 ?side3 ?side4 ?side5 ?side6 A61.out).mono ?_);(case side1=>exact qz95);(case side2=>exact (Kd.N_reads' HO_11.out).2.1);(case side3=>exact qz99);(case side4=>exact (Kd.R_reads' HO_9.out).2.1);(case side5=>exact qz93);(case side6=>exact (Kd.R_reads' HO_10.out).2.1);rintro e w68 ⟨v502,rfl,ho0,hb⟩;have n0_:=Aside0.mk (Kd.R_below qz10 hb);have n1_:=Aside0.mk (Kd.R_below qz18 hb);have n2_:=Aside0.mk (Kd.R_below qz28 hb);have n3_:=Aside0.mk (Kd.R_below qz37 hb);have n4_:=Aside0.mk (Kd.N_below qz25 hb);have n5_:=Aside0.mk (Kd.N_lower (Kd.S_N ho0) (below_size qz4));have n6_:=Aside0.mk (below_step qz4 hb);clear HO_6 HO_7 HO_9 HO_10 HO_11 HB;have HO_6:=n0_;have HO_7:=n1_;have HO_9:=n2_;have HO_10:=n3_;have HO_11:=n4_;have HO503:=n5_;have HB:=n6_;clear n0_ n1_ n2_ n3_ n4_ n5_ n6_;(try clear hb);(try clear hb2);(try clear hk);(try clear hi);(try clear ho0))|((with_reducible refine gate_dst (N:=97) rfl ?_);(try (refine gate_guard (by rfl) ?_;dsimp only));refine Kd.N_lit k30 _ 30 ?hg (N':=97) ?hd (xs:=([]:List (S30))) (inner:=[]) (ok:=(fun _=>True)) (okp:=(fun _=>True)) ?hr ?hp (fun _ hk=>hk) trivial (Below.refl _ _) (Nat.le_refl _) (by simp) ?_;(case hd=>rfl);(case hg=>rfl);(case hr=>first|(go_simp;done)|(go_simp;rfl));(case hp=>exact (Reps.none _ _));intro v505 w69 ho70 hb hg_ hnew_;clear hg_ hnew_;(first|rw [← Ny504.out] at ho70|(simp only [Int.reduceToNat] at ho70;rw [← Ny504.out] at ho70));have n0_:=Aside0.mk (Kd.R_below qz10 hb);have n1_:=Aside0.mk (Kd.R_below qz18 hb);have n2_:=Aside0.mk (Kd.R_below qz28 hb);have n3_:=Aside0.mk (Kd.R_below qz37 hb);have n4_:=Aside0.mk (Kd.N_below qz25 hb);have n5_:=Aside0.mk (Kd.N_below qz64 hb);have n6_:=Aside0.mk (Kd.N_lower ho70 (below_size qz4));have n7_:=Aside0.mk (below_step qz4 hb);clear HO_6 HO_7 HO_9 HO_10 HO_11 HO503 HB;have HO_6:=n0_;have HO_7:=n1_;have HO_9:=n2_;have HO_10:=n3_;have HO_11:=n4_;have HO503:=n5_;have HO506:=n6_;have HB:=n7_;clear n0_ n1_ n2_ n3_ n4_ n5_ n6_ n7_ hb ho70;obtain ⟨Ao71,co71,eo71⟩:=Kd.N_slice HO506.out;subst eo71)|(go_at_call 31;(with_reducible refine (impl_SubUnify.calls kj42 _ _ y504 _ _ t472 _ _ t473 t507 t508 _ ?side1 ?side2 ?side3 ?side4 ?side5 ?side6 A62.out).mono ?_);(case side1=>repeat (first|exact (Kd.N_reads' HO506.out).2.2|(with_reducible refine Kd.C_alloc ?_ _)|(with_reducible refine Kd.C_drewN ?_ _)|(with_reducible refine Kd.C_drew ?_)));(case side2=>exact (Kd.N_reads' HO506.out).2.1);(case side3=>exact qz99);(case side4=>exact (Kd.R_reads' HO_9.out).2.1);(case side5=>exact qz93);(case side6=>exact (Kd.R_reads' HO_10.out).2.1);rintro e w72 ⟨v509,rfl,ho0,hb⟩;have n0_:=Aside0.mk (Kd.R_below qz10 hb);have n1_:=Aside0.mk (Kd.R_below qz18 hb);have n2_:=Aside0.mk (Kd.R_below qz28 hb);have n3_:=Aside0.mk (Kd.R_below qz37 hb);have n4_:=Aside0.mk (Kd.N_below qz25 hb);have n5_:=Aside0.mk (Kd.N_below qz64 hb);have n6_:=Aside0.mk (Kd.N_below (by (with_reducible repeat (first|apply Kd.N_alloc|apply Kd.N_drewN|apply Kd.N_drew));exact HO506.out) hb);have n7_:=Aside0.mk (Kd.N_lower (Kd.S_N ho0) (below_size qz4));have n8_:=Aside0.mk (below_step qz4 hb);clear HO_6 HO_7 HO_9 HO_10 HO_11 HO503 HO506 HB;have HO_6:=n0_;have HO_7:=n1_;have HO_9:=n2_;have HO_10:=n3_;have HO_11:=n4_;have HO503:=n5_;have HO506:=n6_;have HO510:=n7_;have HB:=n8_;clear n0_ n1_ n2_ n3_ n4_ n5_ n6_ n7_ n8_;(try clear hb);(try clear hb2);(try clear hk);(try clear hi);(try clear ho0);obtain ⟨Ao73,co73,eo73⟩:=Kd.N_slice HO510.out;subst eo73)|(go_at_call 31;(with_reducible refine (impl_SubUnify.calls kj42 _ _ t507 _ _ t463 _ _ t464 t511 t512 _ ?side1 ?side2 ?side3 ?side4 ?side5 ?side6 A63.out).mono ?_);(case side1=>repeat (first|exact (Kd.N_reads' HO510.out).2.2|(with_reducible refine Kd.C_alloc ?_ _)|(with_reducible refine Kd.C_drewN ?_ _)|(with_reducible refine Kd.C_drew ?_)));(case side2=>exact (Kd.N_reads' HO510.out).2.1);(case side3=>exact qz70);(case side4=>exact (Kd.R_reads' HO_6.out).2.1);(case side5=>exact qz69);(case side6=>exact (Kd.R_reads' HO_7.out).2.1);rintro e w74 ⟨v513,rfl,ho0,hb⟩;have n0_:=Aside0.mk (Kd.R_below qz10 hb);have n1_:=Aside0.mk (Kd.R_below qz18 hb);have n2_:=Aside0.mk (Kd.R_below qz28 hb);have n3_:=Aside0.mk (Kd.R_below qz37 hb);have n4_:=Aside0.mk (Kd.N_below qz25 hb);have n5_:=Aside0.mk (Kd.N_below qz64 hb);have n6_:=Aside0.mk (Kd.N_below (by (with_reducible repeat (first|apply Kd.N_alloc|apply Kd.N_drewN|apply Kd.N_drew));exact HO506.out) hb);have n7_:=Aside0.mk (Kd.N_below (by (with_reducible repeat (first|apply Kd.N_alloc|apply Kd.N_drewN|apply Kd.N_drew));exact HO510.out) hb);have n8_:=Aside0.mk (Kd.N_lower (Kd.S_N ho0) (below_size qz4));have n9_:=Aside0.mk (below_step qz4 hb);clear HO_6 HO_7 HO_9 HO_10 HO_11 HO503 HO506 HO510 HB;have HO_6:=n0_;have HO_7:=n1_;have HO_9:=n2_;have HO_10:=n3_;have HO_11:=n4_;have HO503:=n5_;have HO506:=n6_;have HO510:=n7_;have HO514:=n8_;have HB:=n9_;clear n0_ n1_ n2_ n3_ n4_ n5_ n6_ n7_ n8_ n9_;(try clear hb);(try clear hb2);(try clear hk);(try clear hi);(try clear ho0)))
          (try simp only [Act.put,List.setIfInBounds_toArray,List.set_cons_zero,List.set_cons_succ])
          go_cut [19] (fun v19 wc=>∃ (kq:Nat) (x19_63:Bool),v19 = .bool x19_63∧Aside0 (laws_FnSubTwo.j3 kq t463 t472 t500 t489 t501 t511 t508 t512 x19_63=some r)∧Aside0 (kq≤kj42)∧Aside0 (Kd.R k46 46 wc w.heap.size (fun _=>True) (.slice Ao47 t463.length co47) t463)∧Aside0 (Kd.R k46 46 wc w.heap.size (fun _=>True) (.slice Ao66 t472.length co66) t472)∧Aside0 (Kd.N k30 30 wc w.heap.size (fun _=>True) v502 t500)∧Aside0 (Kd.N k30 30 wc w.heap.size (fun _=>True) v513 t511)∧Aside0 (Below w.heap.size w wc))
          case first=>
           have H:=HC64.out
           clear HC64
           by_cases c75:t489=1
           ·rw [if_pos c75] at H
            have c75b0:(t489 == 1)=true:=beq_iff_eq.mpr c75
            have c75b1:(t489 != 1)=false:=bne_eq_false_iff_eq.mpr c75
            clear c75
            (first|rw [c75b0]|(simp only [i64_w,i32_w];rw [c75b0])|skip)
            have H':=Aside0.mk H
            clear H
            go_wp2
            go_meet
            case rel=>exact ⟨_,((t501 == 1)),qz9,H',⟨by have:=HJ2.out;have:=HJ7.out;have:=HJ42.out;first|omega|exact Nat.le_refl _⟩,⟨qz10⟩,⟨qz28⟩,⟨qz64⟩,⟨by (with_reducible repeat (first|apply Kd.N_alloc|apply Kd.N_drewN|apply Kd.N_drew));exact HO514.out⟩,⟨qz5⟩⟩
           ·rw [if_neg c75] at H
            have c75b0:(t489 == 1)=false:=beq_eq_false_iff_ne.mpr c75
            have c75b1:(t489 != 1)=true:=bne_iff_ne.mpr c75
            (first|rw [c75b0]|(simp only [i64_w,i32_w];rw [c75b0])|skip)
            have H':=Aside0.mk H
            clear H
            go_wp2
            go_meet
            case rel=>exact ⟨_,(false),qz9,H',⟨by have:=HJ2.out;have:=HJ7.out;have:=HJ42.out;first|omega|exact Nat.le_refl _⟩,⟨qz10⟩,⟨qz28⟩,⟨qz64⟩,⟨by (with_reducible repeat (first|apply Kd.N_alloc|apply Kd.N_drewN|apply Kd.N_drew));exact HO514.out⟩,⟨qz5⟩⟩
          case rest=>
           clear HC64
           try clear c1
           try clear c2
           try clear p2
           try clear c3
           try clear c4
           try clear c4b0
           try clear c4b1
           try clear c5
           try clear c6
           try clear c7
           try clear c12
           try clear c14
           try clear c16
           try clear c17
           try clear c22
           try clear c30
           try clear c31
           try clear c38
           try clear c43
           try clear c44
           try clear c47
           try clear c55
           try clear c60
           try clear c75
           try clear c75b0
           try clear c75b1
           try clear p2
           obtain ⟨kq,x19_63,rfl,HA,HJ63,HO_6,HO_9,HO_11,HO_16,HB⟩:=hcut
           cases kq with
           | zero=>exact absurd HA.out (by simp [laws_FnSubTwo.j3])
           | succ kj63=>
            have H:=HA.out
            clear HA
            simp only [laws_FnSubTwo.j3] at H
            have HC76:=Aside0.mk H
            clear H
            go_upto_region 15 with (fail)
            go_cut [20] (fun v20 wc=>∃ (kq:Nat) (x20_75:Bool),v20 = .bool x20_75∧Aside0 (laws_FnSubTwo.j4 kq t463 t472 t500 t489 t501 t511 t508 t512 x19_63 x20_75=some r)∧Aside0 (kq≤kj63)∧Aside0 (Kd.R k46 46 wc w.heap.size (fun _=>True) (.slice Ao47 t463.length co47) t463)∧Aside0 (Kd.R k46 46 wc w.heap.size (fun _=>True) (.slice Ao66 t472.length co66) t472)∧Aside0 (Kd.N k30 30 wc w.heap.size (fun _=>True) v502 t500)∧Aside0 (Kd.N k30 30 wc w.heap.size (fun _=>True) v513 t511)∧Aside0 (Below w.heap.size w wc))
            case first=>
             have H:=HC76.out
             clear HC76
             by_cases c77:t508=1
             ·rw [if_pos c77] at H
              have c77b0:(t508 == 1)=true:=beq_iff_eq.mpr c77
              have c77b1:(t508 != 1)=false:=bne_eq_false_iff_eq.mpr c77
              clear c77
              (first|rw [c77b0]|(simp only [i64_w,i32_w];rw [c77b0])|skip)
              have H':=Aside0.mk H
              clear H
              go_wp2
              go_meet
              case rel=>exact ⟨_,((t512 == 1)),qz9,H',⟨by have:=HJ2.out;have:=HJ7.out;have:=HJ42.out;have:=HJ63.out;first|omega|exact Nat.le_refl _⟩,⟨qz10⟩,⟨qz28⟩,⟨qz25⟩,⟨qz35⟩,⟨qz5⟩⟩
             ·rw [if_neg c77] at H
              have c77b0:(t508 == 1)=false:=beq_eq_false_iff_ne.mpr c77
              have c77b1:(t508 != 1)=true:=bne_iff_ne.mpr c77
              (first|rw [c77b0]|(simp only [i64_w,i32_w];rw [c77b0])|skip)
              have H':=Aside0.mk H
              clear H
              go_wp2
              go_meet
              case rel=>exact ⟨_,(false),qz9,H',⟨by have:=HJ2.out;have:=HJ7.out;have:=HJ42.out;have:=HJ63.out;first|omega|exact Nat.le_refl _⟩,⟨qz10⟩,⟨qz28⟩,⟨qz25⟩,⟨qz35⟩,⟨qz5⟩⟩
            case rest=>
             clear HC76
             try clear c1
             try clear c2
             try clear p2
             try clear c3
             try clear c4
             try clear c4b0
             try clear c4b1
             try clear c5
             try clear c6
             try clear c7
             try clear c12
             try clear c14
             try clear c16
             try clear c17
             try clear c22
             try clear c30
             try clear c31
             try clear c38
             try clear c43
             try clear c44
             try clear c47
             try clear c55
             try clear c60
             try clear c75
             try clear c75b0
             try clear c75b1
             try clear c77
             try clear c77b0
             try clear c77b1
             try clear p2
             obtain ⟨kq,x20_75,rfl,HA,HJ75,HO_6,HO_9,HO_11,HO_16,HB⟩:=hcut
             cases kq with
             | zero=>exact absurd HA.out (by simp [laws_FnSubTwo.j4])
             | succ kj75=>
              have H:=HA.out
              clear HA
              simp only [laws_FnSubTwo.j4] at H
              by_cases c78:(x19_63 != x20_75)=true
              ·rw [if_pos c78] at H
               have c78b0:(x19_63 != x20_75)=true:=c78
               (try (have c78b1:decide (x19_63=x20_75)=false:=by simpa using c78))
               (try (have c78b2:(x19_63 == x20_75)=false:=by simpa using c78))
               (try (have c78b3:¬ (x19_63=x20_75):=by simpa using c78))
               clear c78
               by_cases c79:t489=3
               ·rw [if_pos c79] at H
                have c79b0:(t489 == 3)=true:=beq_iff_eq.mpr c79
                have c79b1:(t489 != 3)=false:=bne_eq_false_iff_eq.mpr c79
                clear c79
                obtain rfl:=Option.some.inj H
                go_wp2
                go_ret
                exact ⟨qz7,qz5⟩
               ·rw [if_neg c79] at H
                have c79b0:(t489 == 3)=false:=beq_eq_false_iff_ne.mpr c79
                have c79b1:(t489 != 3)=true:=bne_iff_ne.mpr c79
                by_cases c80:t501=3
                ·rw [if_pos c80] at H
                 have c80b0:(t501 == 3)=true:=beq_iff_eq.mpr c80
                 have c80b1:(t501 != 3)=false:=bne_eq_false_iff_eq.mpr c80
                 clear c80
                 obtain rfl:=Option.some.inj H
                 go_wp2
                 go_ret
                 exact ⟨qz7,qz5⟩
                ·rw [if_neg c80] at H
                 have c80b0:(t501 == 3)=false:=beq_eq_false_iff_ne.mpr c80
                 have c80b1:(t501 != 3)=true:=bne_iff_ne.mpr c80
                 by_cases c81:t508=3
                 ·rw [if_pos c81] at H
                  have c81b0:(t508 == 3)=true:=beq_iff_eq.mpr c81
                  have c81b1:(t508 != 3)=false:=bne_eq_false_iff_eq.mpr c81
                  clear c81
                  obtain rfl:=Option.some.inj H
                  go_wp2
                  go_ret
                  exact ⟨qz7,qz5⟩
                 ·rw [if_neg c81] at H
                  have c81b0:(t508 == 3)=false:=beq_eq_false_iff_ne.mpr c81
                  have c81b1:(t508 != 3)=true:=bne_iff_ne.mpr c81
                  obtain rfl:=Option.some.inj H
                  go_wp2
                  go_ret
                  exact ⟨qz7,qz5⟩
              ·rw [if_neg c78] at H
               have c78b0:(x19_63 != x20_75)=false:=by simpa using c78
               (try (have c78b1:decide (x19_63=x20_75)=true:=by simpa using c78))
               (try (have c78b2:(x19_63 == x20_75)=true:=by simpa using c78))
               clear c78
               by_cases c82:x19_63=true
               ·subst c82
                have H1:(laws_FnSubTwo.l0 kj75 t500 t511 (([t463,t472]:List (List (S46)))) 0)=some r:=qz40
                clear H
                have H:=H1
                clear H1
                obtain ⟨y515,hy515⟩:∃ y_:List (List (S46)),y_=(([t463,t472]:List (List (S46)))):=⟨_,rfl⟩
                replace H:(laws_FnSubTwo.l0 kj75 t500 t511 y515 0)=some r:=by first|(rw [hy515];exact H)|exact H
                have Ny515:=Aside0.mk hy515
                clear hy515
                have H':=Aside0.mk H
                clear H
                go_wp2_with (first|((with_reducible refine gate_dst (N:=143) rfl ?_);(try (refine gate_guard (by rfl) ?_;dsimp only));refine Kd.N_lit (Kd.slice 46 k46) _ 26 ?hg (N':=143) ?hd (xs:=([t463,t472]:List (List (S46)))) (inner:=[.slice Ao47 t463.length co47,.slice Ao66 t472.length co66]) (ok:=(fun _=>True)) (okp:=(fun _=>True)) ?hr ?hp (fun _ hk=>hk) trivial (Below.refl _ _) (Nat.le_refl _) (by simp) ?_;(case hd=>rfl);(case hg=>rfl);(case hr=>first|(go_simp;done)|(go_simp;rfl));(case hp=>exact (Reps.one (show Kd.FK (Kd.slice 46 k46) _ _ t463 [.slice Ao47 t463.length co47] from (Kd.FK_slice_mk (Kd.R_reads' HO_6.out).2.1 (Kd.R_F HO_6.out))) (Reps.one (show Kd.FK (Kd.slice 46 k46) _ _ t472 [.slice Ao66 t472.length co66] from (Kd.FK_slice_mk (Kd.R_reads' HO_9.out).2.1 (Kd.R_F HO_9.out))) (Reps.none _ _))));intro v516 w83 ho84 hb hg_ hnew_;clear hg_ hnew_;(first|rw [← Ny515.out] at ho84|(simp only [Int.reduceToNat] at ho84;rw [← Ny515.out] at ho84));have n0_:=Aside0.mk (Kd.N_below qz25 hb);have n1_:=Aside0.mk (Kd.N_below qz35 hb);have n2_:=Aside0.mk (Kd.N_lower ho84 (below_size qz4));have n3_:=Aside0.mk (below_step qz4 hb);clear HO_11 HO_16 HB HO_6 HO_9;have HO_11:=n0_;have HO_16:=n1_;have HO517:=n2_;have HB:=n3_;clear n0_ n1_ n2_ n3_ hb ho84))
                go_loopg [22] kj75 (fun kq v22 w'=>∃ (x22_6:Int),v22 = .int .i64 x22_6∧Aside0 (laws_FnSubTwo.l0 kq t500 t511 y515 x22_6=some r)∧Aside0 (kq≤kj75)∧Aside0 (Kd.N k30 30 w' w.heap.size (fun _=>True) v502 t500)∧Aside0 (Kd.N k30 30 w' w.heap.size (fun _=>True) v513 t511)∧Aside0 (Kd.N (Kd.slice 46 k46) 26 w' w.heap.size (fun _=>True) v516 y515)∧Aside0 (Below w.heap.size w w'))
                case atStart=>exact ⟨(0),qz9,H',⟨Nat.le_refl _⟩,⟨qz25⟩,⟨qz35⟩,⟨by (with_reducible repeat (first|apply Kd.N_alloc|apply Kd.N_drewN|apply Kd.N_drew));exact HO517.out⟩,⟨qz5⟩⟩
                case round=>
                 clear H'
                 try clear c1
                 try clear c2
                 try clear p2
                 try clear c3
                 try clear c4
                 try clear c4b0
                 try clear c4b1
                 try clear c5
                 try clear c6
                 try clear c7
                 try clear c8
                 try clear c12
                 try clear c14
                 try clear c16
                 try clear c17
                 try clear c22
                 try clear c30
                 try clear c31
                 try clear c38
                 try clear c43
                 try clear c44
                 try clear c47
                 try clear c55
                 try clear c60
                 try clear c75
                 try clear c75b0
                 try clear c75b1
                 try clear c77
                 try clear c77b0
                 try clear c77b1
                 try clear c78
                 try clear c78b0
                 try clear c78b1
                 try clear c78b2
                 try clear c79
                 try clear c79b0
                 try clear c79b1
                 try clear c80
                 try clear c80b0
                 try clear c80b1
                 try clear c81
                 try clear c81b0
                 try clear c81b1
                 try clear c82
                 try clear p2
                 obtain ⟨x22_6,rfl,HA,HK6,HO_11,HO_16,HO_21,HB⟩:=hrel
                 cases gk with
                 | zero=>exact absurd HA.out (by simp [laws_FnSubTwo.l0])
                 | succ k6=>
                  have H:=HA.out
                  clear HA
                  simp only [laws_FnSubTwo.l0] at H
                  by_cases c85:x22_6<(y515.length:Int)
                  ·rw [if_pos c85] at H
                   have c85b0:decide (x22_6<(y515.length:Int))=true:=decide_eq_true c85
                   clear c85
                   by_cases c86:0≤x22_6
                   ·rw [if_pos c86] at H
                    have c86b0:decide (0≤x22_6)=true:=decide_eq_true c86
                    clear c86
                    replace H:=Option.bind_eq_some_iff.mp H
                    obtain ⟨⟨t519,t520⟩,A870,H⟩:=H
                    try dsimp only at H
                    have A87:=Aside0.mk A870
                    clear A870
                    replace H:=Option.bind_eq_some_iff.mp H
                    obtain ⟨⟨t524,t525⟩,A880,H⟩:=H
                    try dsimp only at H
                    have A88:=Aside0.mk A880
                    clear A880
                    have HC89:=Aside0.mk H
                    clear H
                    obtain ⟨Ao90,co90,eo90⟩:=Kd.N_slice HO_21.out
                    subst eo90
                    have p518:0≤(x22_6:Int):=of_decide_eq_true qz6
                    have q518:x22_6<(y515.length:Int):=of_decide_eq_true qz6
                    obtain ⟨ad518,A518_0,c518_0,e518,hx518_0,hl518_0,hi518_0⟩:=at_L3 (Kd.N_reads' HO_21.out).2.2 x22_6 p518 q518
                    cases e518
                    obtain ⟨ce518,hce518,hMe518,hcc518⟩:=Kd.N_get HO_21.out [] x22_6 p518 (by first|exact q518|exact of_decide_eq_true qz6|(have e_:=(Kd.N_reads' HO_21.out).1;omega))
                    obtain ⟨ua518_0,uc518_0,rfl,ul518_0,ge518_0⟩:=Kd.FK_slice_open hMe518
                    have hv518_0:=hcc518 0 _ rfl
                    rw [Nat.add_zero,show ((Kd.slice 46 k46)).sz=1 from rfl,Nat.mul_one] at hv518_0
                    replace hv518_0:=Option.some.inj (hv518_0.symm.trans hx518_0)
                    injection hv518_0 with hva_ hvn_ hvc_
                    rw [hva_] at ge518_0
                    rw [hvc_] at ul518_0
                    have HL518_0:=Aside0.mk (show Kd.V k46 46 _ w.heap.size _ _ (rd_L3 y515 x22_6) from Kd.V_mk ul518_0 ge518_0)
                    clear hva_ hvn_ hvc_ ge518_0 ul518_0 hcc518 hce518
                    have HR518_0:=Aside0.mk hi518_0
                    have HC518_0:=Aside0.mk hl518_0
                    clear hi518_0 hl518_0
                    replace p518:=eq_true p518
                    replace q518:=eq_true q518
                    obtain ⟨Ao91,co91,eo91⟩:=Kd.N_slice HO_11.out
                    subst eo91
                    go_upto_region 26 with (first|(go_at_call 36;(with_reducible refine (impl_SubFull.calls k6 _ _ t500 _ _ (rd_L3 y515 x22_6) t519 t520 _ ?side1 ?side2 ?side3 ?side4 A87.out).mono ?_);(case side1=>exact qz95);(case side2=>exact (Kd.N_reads' HO_11.out).2.1);(case side3=>repeat (first|exact qz29|(with_reducible refine Kd.C_alloc ?_ _)|(with_reducible refine Kd.C_drewN ?_ _)|(with_reducible refine Kd.C_drew ?_)));(case side4=>exact HC518_0.out);rintro e w92 ⟨v521,rfl,ho0,hb⟩;have n0_:=Aside0.mk (Kd.N_below qz25 hb);have n1_:=Aside0.mk (Kd.N_below qz35 hb);have n2_:=Aside0.mk (Kd.N_below qz51 hb);have n3_:=Aside0.mk (Kd.V_below qz73 hb);have n4_:=Aside0.mk (Kd.R_lower ho0 (below_size qz4));have n5_:=Aside0.mk (Kd.C_below qz29 hb);have n6_:=Aside0.mk (below_step qz4 hb);clear HO_11 HO_16 HO_21 HL518_0 HR518_0 HB;have HO_11:=n0_;have HO_16:=n1_;have HO_21:=n2_;have HL518_0:=n3_;have HO522:=n4_;have HR518_0:=n5_;have HB:=n6_;clear n0_ n1_ n2_ n3_ n4_ n5_ n6_;(try clear hb);(try clear hb2);(try clear hk);(try clear hi);(try clear ho0);have p523:0≤(x22_6:Int):=of_decide_eq_true qz6;have q523:x22_6<(y515.length:Int):=of_decide_eq_true qz6;obtain ⟨ad523,A523_0,c523_0,e523,hx523_0,hl523_0,hi523_0⟩:=at_L3 (Kd.N_reads' HO_21.out).2.2 x22_6 p523 q523;obtain rfl:ad518=ad523:=(by injection e523);obtain ⟨ce523,hce523,hMe523,hcc523⟩:=Kd.N_get HO_21.out [] x22_6 p523 (by first|exact q523|exact of_decide_eq_true qz6|(have e_:=(Kd.N_reads' HO_21.out).1;omega));obtain ⟨ua523_0,uc523_0,rfl,ul523_0,ge523_0⟩:=Kd.FK_slice_open hMe523;have hv523_0:=hcc523 0 _ rfl;rw [Nat.add_zero,show ((Kd.slice 46 k46)).sz=1 from rfl,Nat.mul_one] at hv523_0;replace hv523_0:=Option.some.inj (hv523_0.symm.trans hx523_0);injection hv523_0 with hva_ hvn_ hvc_;rw [hva_] at ge523_0;rw [hvc_] at ul523_0;have HL523_0:=Aside0.mk (show Kd.V k46 46 _ w.heap.size _ _ (rd_L3 y515 x22_6) from Kd.V_mk ul523_0 ge523_0);clear hva_ hvn_ hvc_ ge523_0 ul523_0 hcc523 hce523;have HR523_0:=Aside0.mk hi523_0;have HC523_0:=Aside0.mk hl523_0;clear hi523_0 hl523_0;replace p523:=eq_true p523;replace q523:=eq_true q523;obtain ⟨Ao93,co93,eo93⟩:=Kd.N_slice HO_16.out;subst eo93)|(go_at_call 36;(with_reducible refine (impl_SubFull.calls k6 _ _ t511 _ _ (rd_L3 y515 x22_6) t524 t525 _ ?side1 ?side2 ?side3 ?side4 A88.out).mono ?_);(case side1=>repeat (first|exact (Kd.N_reads' HO_16.out).2.2|(with_reducible refine Kd.C_alloc ?_ _)|(with_reducible refine Kd.C_drewN ?_ _)|(with_reducible refine Kd.C_drew ?_)));(case side2=>exact (Kd.N_reads' HO_16.out).2.1);(case side3=>repeat (first|exact qz33|(with_reducible refine Kd.C_alloc ?_ _)|(with_reducible refine Kd.C_drewN ?_ _)|(with_reducible refine Kd.C_drew ?_)));(case side4=>exact HC523_0.out);rintro e w94 ⟨v526,rfl,ho0,hb⟩;have n0_:=Aside0.mk (Kd.N_below qz25 hb);have n1_:=Aside0.mk (Kd.N_below qz35 hb);have n2_:=Aside0.mk (Kd.N_below qz51 hb);have n3_:=Aside0.mk (Kd.V_below qz73 hb);have n4_:=Aside0.mk (Kd.R_below qz83 hb);have n5_:=Aside0.mk (Kd.V_below qz82 hb);have n6_:=Aside0.mk (Kd.R_lower ho0 (below_size qz4));have n7_:=Aside0.mk (Kd.C_below qz29 hb);have n8_:=Aside0.mk (Kd.C_below qz33 hb);have n9_:=Aside0.mk (below_step qz4 hb);clear HO_11 HO_16 HO_21 HL518_0 HO522 HL523_0 HR518_0 HR523_0 HB;have HO_11:=n0_;have HO_16:=n1_;have HO_21:=n2_;have HL518_0:=n3_;have HO522:=n4_;have HL523_0:=n5_;have HO527:=n6_;have HR518_0:=n7_;have HR523_0:=n8_;have HB:=n9_;clear n0_ n1_ n2_ n3_ n4_ n5_ n6_ n7_ n8_ n9_;(try clear hb);(try clear hb2);(try clear hk);(try clear hi);(try clear ho0)))
                    (try simp only [Act.put,List.setIfInBounds_toArray,List.set_cons_zero,List.set_cons_succ])
                    go_cut [179] (fun v179 wc=>∃ (kq:Nat) (x179_88:Bool),v179 = .bool x179_88∧Aside0 (laws_FnSubTwo.j6 kq t500 t511 y515 x22_6 x179_88=some r)∧Aside0 (kq≤k6)∧Aside0 (Kd.N k30 30 wc w.heap.size (fun _=>True) (.slice Ao91 t500.length co91) t500)∧Aside0 (Kd.N k30 30 wc w.heap.size (fun _=>True) (.slice Ao93 t511.length co93) t511)∧Aside0 (Kd.N (Kd.slice 46 k46) 26 wc w.heap.size (fun _=>True) (.slice (some ad518) y515.length co90) y515)∧Aside0 (Kd.C k46 wc A518_0 (rd_L3 y515 x22_6).length (rd_L3 y515 x22_6))∧Aside0 (Kd.C k46 wc A523_0 (rd_L3 y515 x22_6).length (rd_L3 y515 x22_6))∧Aside0 (Below w.heap.size w wc))
                    case first=>
                     have H:=HC89.out
                     clear HC89
                     by_cases c95:t520=true
                     ·subst c95
                      have H1:(if t525=true then ((impl_TrmCanon.f k6 t519).bind fun t528=>((impl_TrmCanon.f k6 t524).bind fun t531=>((laws_caTerm.f k6 t528 t531).bind fun t534=>(laws_FnSubTwo.j6 k6 t500 t511 y515 x22_6 (!t534))))) else (laws_FnSubTwo.j6 k6 t500 t511 y515 x22_6 false))=some r:=qz40
                      clear H
                      have H:=H1
                      clear H1
                      by_cases c96:t525=true
                      ·subst c96
                       have H1:((impl_TrmCanon.f k6 t519).bind fun t528=>((impl_TrmCanon.f k6 t524).bind fun t531=>((laws_caTerm.f k6 t528 t531).bind fun t534=>(laws_FnSubTwo.j6 k6 t500 t511 y515 x22_6 (!t534)))))=some r:=qz40
                       clear H
                       have H:=H1
                       clear H1
                       replace H:=Option.bind_eq_some_iff.mp H
                       obtain ⟨t528,A970,H⟩:=H
                       try dsimp only at H
                       have A97:=Aside0.mk A970
                       clear A970
                       replace H:=Option.bind_eq_some_iff.mp H
                       obtain ⟨t531,A980,H⟩:=H
                       try dsimp only at H
                       have A98:=Aside0.mk A980
                       clear A980
                       replace H:=Option.bind_eq_some_iff.mp H
                       obtain ⟨t534,A990,H⟩:=H
                       try dsimp only at H
                       have A99:=Aside0.mk A990
                       clear A990
                       have H':=Aside0.mk H
                       clear H
                       obtain ⟨Ao100,co100,eo100⟩:=Kd.R_slice HO522.out
                       subst eo100
                       go_wp2_with (first|(go_at_call 45;(with_reducible refine (impl_TrmCanon.calls k6 _ _ t519 t528 _ ?side1 ?side2 A97.out).mono ?_);(case side1=>repeat (first|exact (Kd.R_reads' HO522.out).2.2|(with_reducible refine Kd.C_alloc ?_ _)|(with_reducible refine Kd.C_drewN ?_ _)|(with_reducible refine Kd.C_drew ?_)));(case side2=>exact (Kd.R_reads' HO522.out).2.1);rintro e w101 ⟨v529,rfl,ho0,hb⟩;have n0_:=Aside0.mk (Kd.N_below qz25 hb);have n1_:=Aside0.mk (Kd.N_below qz35 hb);have n2_:=Aside0.mk (Kd.N_below qz51 hb);have n3_:=Aside0.mk (Kd.V_below qz73 hb);have n4_:=Aside0.mk (Kd.R_below qz83 hb);have n5_:=Aside0.mk (Kd.V_below qz82 hb);have n6_:=Aside0.mk (Kd.R_below (by (with_reducible repeat (first|apply Kd.R_alloc|apply Kd.R_drewN|apply Kd.R_drew));exact HO527.out) hb);have n7_:=Aside0.mk (Kd.R_lower ho0 (below_size qz4));have n8_:=Aside0.mk (Kd.C_below qz29 hb);have n9_:=Aside0.mk (Kd.C_below qz33 hb);have n10_:=Aside0.mk (below_step qz4 hb);clear HO_11 HO_16 HO_21 HL518_0 HO522 HL523_0 HO527 HR518_0 HR523_0 HB;have HO_11:=n0_;have HO_16:=n1_;have HO_21:=n2_;have HL518_0:=n3_;have HO522:=n4_;have HL523_0:=n5_;have HO527:=n6_;have HO530:=n7_;have HR518_0:=n8_;have HR523_0:=n9_;have HB:=n10_;clear n0_ n1_ n2_ n3_ n4_ n5_ n6_ n7_ n8_ n9_ n10_;(try clear hb);(try clear hb2);(try clear hk);(try clear hi);(try clear ho0);obtain ⟨Ao102,co102,eo102⟩:=Kd.R_slice HO527.out;subst eo102)|(go_at_call 45;(with_reducible refine (impl_TrmCanon.calls k6 _ _ t524 t531 _ ?side1 ?side2 A98.out).mono ?_);(case side1=>repeat (first|exact (Kd.R_reads' HO527.out).2.2|(with_reducible refine Kd.C_alloc ?_ _)|(with_reducible refine Kd.C_drewN ?_ _)|(with_reducible refine Kd.C_drew ?_)));(case side2=>exact (Kd.R_reads' HO527.out).2.1);rintro e w103 ⟨v532,rfl,ho0,hb⟩;have n0_:=Aside0.mk (Kd.N_below qz25 hb);have n1_:=Aside0.mk (Kd.N_below qz35 hb);have n2_:=Aside0.mk (Kd.N_below qz51 hb);have n3_:=Aside0.mk (Kd.V_below qz73 hb);have n4_:=Aside0.mk (Kd.R_below qz83 hb);have n5_:=Aside0.mk (Kd.V_below qz82 hb);have n6_:=Aside0.mk (Kd.R_below (by (with_reducible repeat (first|apply Kd.R_alloc|apply Kd.R_drewN|apply Kd.R_drew));exact HO527.out) hb);have n7_:=Aside0.mk (Kd.R_below (by (with_reducible repeat (first|apply Kd.R_alloc|apply Kd.R_drewN|apply Kd.R_drew));exact HO530.out) hb);have n8_:=Aside0.mk (Kd.R_lower ho0 (below_size qz4));have n9_:=Aside0.mk (Kd.C_below qz29 hb);have n10_:=Aside0.mk (Kd.C_below qz33 hb);have n11_:=Aside0.mk (below_step qz4 hb);clear HO_11 HO_16 HO_21 HL518_0 HO522 HL523_0 HO527 HO530 HR518_0 HR523_0 HB;have HO_11:=n0_;have HO_16:=n1_;have HO_21:=n2_;have HL518_0:=n3_;have HO522:=n4_;have HL523_0:=n5_;have HO527:=n6_;have HO530:=n7_;have HO533:=n8_;have HR518_0:=n9_;have HR523_0:=n10_;have HB:=n11_;clear n0_ n1_ n2_ n3_ n4_ n5_ n6_ n7_ n8_ n9_ n10_ n11_;(try clear hb);(try clear hb2);(try clear hk);(try clear hi);(try clear ho0);obtain ⟨Ao104,co104,eo104⟩:=Kd.R_slice HO530.out;subst eo104;obtain ⟨Ao105,co105,eo105⟩:=Kd.R_slice HO533.out;subst eo105)|(go_at_call 20;(with_reducible refine (laws_caTerm.calls k6 _ _ t528 _ _ t531 t534 _ ?side1 ?side2 ?side3 ?side4 A99.out).mono ?_);(case side1=>repeat (first|exact (Kd.R_reads' HO530.out).2.2|(with_reducible refine Kd.C_alloc ?_ _)|(with_reducible refine Kd.C_drewN ?_ _)|(with_reducible refine Kd.C_drew ?_)));(case side2=>exact (Kd.R_reads' HO530.out).2.1);(case side3=>repeat (first|exact (Kd.R_reads' HO533.out).2.2|(with_reducible refine Kd.C_alloc ?_ _)|(with_reducible refine Kd.C_drewN ?_ _)|(with_reducible refine Kd.C_drew ?_)));(case side4=>exact (Kd.R_reads' HO533.out).2.1);rintro e w' ⟨rfl,⟨nd,rfl⟩⟩))
                       go_meet
                       case rel=>exact ⟨_,(!t534),qz9,H',⟨qz79⟩,⟨qz25⟩,⟨qz35⟩,⟨qz51⟩,⟨qz29⟩,⟨qz33⟩,⟨qz5⟩⟩
                      ·replace c96:=Bool.eq_false_iff.mpr c96
                       subst c96
                       have H1:(laws_FnSubTwo.j6 k6 t500 t511 y515 x22_6 false)=some r:=qz20
                       clear H
                       have H:=H1
                       clear H1
                       have H':=Aside0.mk H
                       clear H
                       go_wp2
                       go_meet
                       case rel=>exact ⟨_,(false),qz9,H',⟨qz79⟩,⟨qz25⟩,⟨qz35⟩,⟨qz51⟩,⟨qz29⟩,⟨qz33⟩,⟨qz5⟩⟩
                     ·replace c95:=Bool.eq_false_iff.mpr c95
                      subst c95
                      have H1:(laws_FnSubTwo.j6 k6 t500 t511 y515 x22_6 false)=some r:=qz20
                      clear H
                      have H:=H1
                      clear H1
                      have H':=Aside0.mk H
                      clear H
                      go_wp2
                      go_meet
                      case rel=>exact ⟨_,(false),qz9,H',⟨qz79⟩,⟨qz25⟩,⟨qz35⟩,⟨qz51⟩,⟨qz29⟩,⟨qz33⟩,⟨qz5⟩⟩
                    case rest=>
                     clear HC89
                     try clear c1
                     try clear c2
                     try clear p2
                     try clear c3
                     try clear c4
                     try clear c4b0
                     try clear c4b1
                     try clear c5
                     try clear p5
                     try clear q5
                     try clear hx5
                     try clear c6
                     try clear c7
                     try clear c8
                     try clear c9
                     try clear c12
                     try clear c14
                     try clear c16
                     try clear c17
                     try clear c22
                     try clear c30
                     try clear c31
                     try clear c36
                     try clear c38
                     try clear c43
                     try clear c44
                     try clear c47
                     try clear c51
                     try clear p51
                     try clear q51
                     try clear hx51
                     try clear c52
                     try clear p52
                     try clear q52
                     try clear hx52
                     try clear c55
                     try clear c60
                     try clear c75
                     try clear c75b0
                     try clear c75b1
                     try clear c77
                     try clear c77b0
                     try clear c77b1
                     try clear c78
                     try clear c78b0
                     try clear c78b1
                     try clear c78b2
                     try clear c79
                     try clear c79b0
                     try clear c79b1
                     try clear c80
                     try clear c80b0
                     try clear c80b1
                     try clear c81
                     try clear c81b0
                     try clear c81b1
                     try clear c82
                     try clear c85
                     try clear c85b0
                     try clear c86
                     try clear c86b0
                     try clear c95
                     try clear c96
                     try clear hx518_0
                     try clear hx523_0
                     try clear p2
                     try clear p518
                     try clear p523
                     try clear q518
                     try clear q523
                     obtain ⟨kq,x179_88,rfl,HA,HJ88,HO_11,HO_16,HO_21,HR518_0,HR523_0,HB⟩:=hcut
                     cases kq with
                     | zero=>exact absurd HA.out (by simp [laws_FnSubTwo.j6])
                     | succ kj88=>
                      have H:=HA.out
                      clear HA
                      simp only [laws_FnSubTwo.j6] at H
                      by_cases c106:x179_88=true
                      ·subst c106
                       have H1:(some false)=some r:=qz40
                       clear H
                       have H:=H1
                       clear H1
                       obtain rfl:=Option.some.inj H
                       go_wp2
                       go_ret
                       exact ⟨qz7,qz5⟩
                      ·replace c106:=Bool.eq_false_iff.mpr c106
                       subst c106
                       have H1:(laws_FnSubTwo.l0 kj88 t500 t511 y515 (wrap64 (x22_6+1)))=some r:=qz20
                       clear H
                       have H:=H1
                       clear H1
                       have H':=Aside0.mk H
                       clear H
                       go_wp2
                       go_roundg kj88
                       case measure=>have:=HJ2.out;have:=HJ7.out;have:=HJ42.out;have:=HJ63.out;have:=HJ75.out;have:=HK6.out;have:=HJ88.out;omega
                       case rel=>exact ⟨(wrap64 (x22_6+1)),qz9,H',⟨by have:=HJ2.out;have:=HJ7.out;have:=HJ42.out;have:=HJ63.out;have:=HJ75.out;have:=HK6.out;have:=HJ88.out;omega⟩,⟨qz25⟩,⟨qz35⟩,⟨qz51⟩,⟨qz5⟩⟩
                   ·rw [if_neg c86] at H
                    exact absurd H (by simp)
                  ·rw [if_neg c85] at H
                   have c85b0:decide (x22_6<(y515.length:Int))=false:=decide_eq_false c85
                   clear c85
                   obtain rfl:=Option.some.inj H
                   obtain ⟨Ao107,co107,eo107⟩:=Kd.N_slice HO_21.out
                   subst eo107
                   go_wp2
                   go_ret
                   exact ⟨qz7,qz5⟩
               ·replace c82:=Bool.eq_false_iff.mpr c82
                subst c82
                have H1:(some true)=some r:=qz20
                clear H
                have H:=H1
                clear H1
                obtain rfl:=Option.some.inj H
                go_wp2
                go_ret
                exact ⟨qz7,qz5⟩
end Go.Proofs.YtlaicnoikeieeaaDoor.P
