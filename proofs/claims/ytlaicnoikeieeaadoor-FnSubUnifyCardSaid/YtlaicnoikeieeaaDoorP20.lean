/- Contracts of functions of the program: each as a Lean function, and that its call does what that says; printed by cprint.py (this session) over print.py of the kit. Conditions: the hypotheses of each theorem. -/
import Derived.Test.YtlaicnoikeieeaaDoorVZ
import Derived.Test.YtlaicnoikeieeaaDoorP0
import Derived.Test.YtlaicnoikeieeaaDoorP4
import Derived.Test.YtlaicnoikeieeaaDoorP6
import Derived.Test.YtlaicnoikeieeaaDoorP8
import Derived.Test.YtlaicnoikeieeaaDoorP11
import Derived.Test.YtlaicnoikeieeaaDoorP14
import Derived.Test.YtlaicnoikeieeaaDoorP15
import Derived.Test.YtlaicnoikeieeaaDoorP19
namespace Go.Proofs.YtlaicnoikeieeaaDoor.P
open Go.RowKit Go.Proofs.YtlaicnoikeieeaaDoorW.PrintWords Go.Proofs.YtlaicnoikeieeaaDoorW.PrintLast Go.Proofs.YtlaicnoikeieeaaDoorW.PrintMore
attribute [local go_sem] max2_int min2_int max_two min_two max_three min_three max_four min_four   -- for this text's walks alone
set_option linter.unusedVariables false
set_option linter.unusedSimpArgs false

/-! ### laws_FnSubUnify: function 15 -/
mutual
def laws_FnSubUnify.j0:Nat→List (S30)→List (S46)→List (S46)→List (S30)→Int→Bool→Option (Bool)
 | 0,_,_,_,_,_,_=>none
 | k+1,x3,x4,x5,x6,x7,x52=>if x52=true then (some false) else ((spec_SubOk.f k x3).bind fun t472=>(if t472=true then ((spec_TrmOk.f k x4).bind fun t473=>(if t473=true then ((spec_TrmOk.f k x5).bind fun t474=>(laws_FnSubUnify.j1 k x3 x4 x5 x6 x7 (!t474))) else (laws_FnSubUnify.j1 k x3 x4 x5 x6 x7 true))) else (laws_FnSubUnify.j1 k x3 x4 x5 x6 x7 true)))
def laws_FnSubUnify.j1:Nat→List (S30)→List (S46)→List (S46)→List (S30)→Int→Bool→Option (Bool)
 | 0,_,_,_,_,_,_=>none
 | k+1,x3,x4,x5,x6,x7,x65=>if x65=true then (if x7=4 then (if (x6.length:Int)=0 then ((laws_caOk.f).bind fun t475=>(laws_FnSubUnify.j2 k t475)) else (laws_FnSubUnify.j2 k false)) else (laws_FnSubUnify.j2 k false)) else (if x7=1 then ((impl_SubFull.f k x6 x4).bind fun bt476=>((impl_SubFull.f k x6 x5).bind fun bt480=>((impl_SubOk.f k x6).bind fun t484=>(if t484=true then (if (x6.length:Int)≥(x3.length:Int) then (if 0≤(x3.length:Int) then (if (x3.length:Int)≤(x6.length:Int) then ((laws_caBinds.f k (x6.take ((x3.length:Int):Int).toNat) x3).bind fun t489=>(if t489=true then (if bt476.2=true then (if bt480.2=true then ((laws_caTerm.f k bt476.1 bt480.1).bind fun t490=>(laws_FnSubUnify.j4 k t490)) else (laws_FnSubUnify.j4 k false)) else (laws_FnSubUnify.j4 k false)) else (laws_FnSubUnify.j4 k false))) else (none)) else (none)) else (laws_FnSubUnify.j4 k false)) else (laws_FnSubUnify.j4 k false))))) else (if (x6.length:Int)=0 then (if x7=2 then (laws_FnSubUnify.j3 k true) else (laws_FnSubUnify.j3 k (x7 == 3))) else (laws_FnSubUnify.j3 k false)))
def laws_FnSubUnify.j2:Nat→Bool→Option (Bool)
 | 0,_=>none
 | k+1,x2=>some x2
def laws_FnSubUnify.j4:Nat→Bool→Option (Bool)
 | 0,_=>none
 | k+1,x2=>some x2
def laws_FnSubUnify.j3:Nat→Bool→Option (Bool)
 | 0,_=>none
 | k+1,x2=>some x2
end
def laws_FnSubUnify.f (k:Nat) (l0:List Int):Option (Bool):=if (l0.length:Int) > 1048576 then (some true) else ((spec_DrawSubUnify.f k l0).bind fun bt452=>((impl_SubUnify.f k bt452.1 bt452.2.1 bt452.2.2).bind fun bt461=>((spec_SubUnify.f k bt452.1 bt452.2.1 bt452.2.2).bind fun bt465=>((laws_caBinds.f k bt461.1 bt465.1).bind fun t469=>(if t469=true then (if bt461.2=bt465.2 then ((impl_SubOk.f k bt452.1).bind fun t470=>((spec_SubOk.f k bt452.1).bind fun t471=>(laws_FnSubUnify.j0 k bt452.1 bt452.2.1 bt452.2.2 bt461.1 bt461.2 (t470 != t471)))) else (laws_FnSubUnify.j0 k bt452.1 bt452.2.1 bt452.2.2 bt461.1 bt461.2 true)) else (laws_FnSubUnify.j0 k bt452.1 bt452.2.1 bt452.2.2 bt461.1 bt461.2 true))))))
set_option maxHeartbeats 8000000 in
set_option maxRecDepth 100000 in
theorem laws_FnSubUnify.calls (k:Nat) (A0:Option Addr) (c0:Nat) (l0:List Int) (r:Bool) (w:World) (hr0:Kd.C (Kd.int .u8) w A0 l0.length l0) (hc0:l0.length≤c0) (h:laws_FnSubUnify.f k l0=some r) :
  Calls Tryd.prog 15 #[.slice A0 l0.length c0] w fun e w'=>e = .returned (.bool r)∧Below w.heap.size w w':=by
 have HR0:=Aside0.mk hr0
 have HC0:=Aside0.mk hc0
 clear hr0 hc0
 have HB:=Aside0.mk (Below.refl w.heap.size w)
 have H:(if (l0.length:Int) > 1048576 then (some true) else ((spec_DrawSubUnify.f k l0).bind fun bt452=>((impl_SubUnify.f k bt452.1 bt452.2.1 bt452.2.2).bind fun bt461=>((spec_SubUnify.f k bt452.1 bt452.2.1 bt452.2.2).bind fun bt465=>((laws_caBinds.f k bt461.1 bt465.1).bind fun t469=>(if t469=true then (if bt461.2=bt465.2 then ((impl_SubOk.f k bt452.1).bind fun t470=>((spec_SubOk.f k bt452.1).bind fun t471=>(laws_FnSubUnify.j0 k bt452.1 bt452.2.1 bt452.2.2 bt461.1 bt461.2 (t470 != t471)))) else (laws_FnSubUnify.j0 k bt452.1 bt452.2.1 bt452.2.2 bt461.1 bt461.2 true)) else (laws_FnSubUnify.j0 k bt452.1 bt452.2.1 bt452.2.2 bt461.1 bt461.2 true)))))))=some r:=h
 clear h
 by_cases c2:(l0.length:Int) > 1048576
 ·rw [if_pos c2] at H
  have c2b0:decide (1048576<(l0.length:Int))=true:=decide_eq_true c2
  have c2b1:decide (1048576<l0.length)=true:=decide_eq_true (by omega)
  clear c2
  obtain rfl:=Option.some.inj H
  go_enter Tryd.func15,Tryd.ntmps15
  go_wp2
  go_ret
  exact ⟨qz7,qz5⟩
 ·rw [if_neg c2] at H
  have c2b0:decide (1048576<(l0.length:Int))=false:=decide_eq_false c2
  have c2b1:decide (1048576<l0.length)=false:=decide_eq_false (by omega)
  clear c2
  replace H:=Option.bind_eq_some_iff.mp H
  obtain ⟨⟨t452,t453,t454⟩,A30,H⟩:=H
  try dsimp only at H
  have A3:=Aside0.mk A30
  clear A30
  replace H:=Option.bind_eq_some_iff.mp H
  obtain ⟨⟨t461,t462⟩,A40,H⟩:=H
  try dsimp only at H
  have A4:=Aside0.mk A40
  clear A40
  replace H:=Option.bind_eq_some_iff.mp H
  obtain ⟨⟨t465,t466⟩,A50,H⟩:=H
  try dsimp only at H
  have A5:=Aside0.mk A50
  clear A50
  have HC6:=Aside0.mk H
  clear H
  go_enter Tryd.func15,Tryd.ntmps15
  go_upto_region 6 with (first|(go_at_call 43;(with_reducible refine (spec_DrawSubUnify.calls k _ _ l0 t452 t453 t454 _ ?side1 ?side2 A3.out).mono ?_);(case side1=>exact qz54);(case side2=>exact HC0.out);rintro e w7 ⟨v455,v457,v459,rfl,ho0,ho1,ho2,hb⟩;have n0_:=Aside0.mk (Kd.S_lower ho0 (below_size qz4));have n1_:=Aside0.mk (Kd.R_lower ho1 (below_size qz4));have n2_:=Aside0.mk (Kd.R_lower ho2 (below_size qz4));have n3_:=Aside0.mk (below_step qz4 hb);clear HB;have HO456:=n0_;have HO458:=n1_;have HO460:=n2_;have HB:=n3_;clear n0_ n1_ n2_ n3_;(try clear hb);(try clear hb2);(try clear hk);(try clear hi);(try clear ho0);(try clear ho1);(try clear ho2);obtain ⟨Ao8,co8,eo8⟩:=Kd.S_slice HO456.out;subst eo8;obtain ⟨Ao9,co9,eo9⟩:=Kd.R_slice HO458.out;subst eo9;obtain ⟨Ao10,co10,eo10⟩:=Kd.R_slice HO460.out;subst eo10)|(go_at_call 31;(with_reducible refine (impl_SubUnify.calls k _ _ t452 _ _ t453 _ _ t454 t461 t462 _ ?side1 ?side2 ?side3 ?side4 ?side5 ?side6 A4.out).mono ?_);(case side1=>exact qz55);(case side2=>exact (Kd.S_reads' HO456.out).2.1);(case side3=>exact qz85);(case side4=>exact (Kd.R_reads' HO458.out).2.1);(case side5=>exact qz84);(case side6=>exact (Kd.R_reads' HO460.out).2.1);rintro e w11 ⟨v463,rfl,ho0,hb⟩;have n0_:=Aside0.mk (Kd.S_below qz48 hb);have n1_:=Aside0.mk (Kd.R_below qz51 hb);have n2_:=Aside0.mk (Kd.R_below qz50 hb);have n3_:=Aside0.mk (Kd.S_lower ho0 (below_size qz4));have n4_:=Aside0.mk (below_step qz4 hb);clear HO456 HO458 HO460 HB;have HO456:=n0_;have HO458:=n1_;have HO460:=n2_;have HO464:=n3_;have HB:=n4_;clear n0_ n1_ n2_ n3_ n4_;(try clear hb);(try clear hb2);(try clear hk);(try clear hi);(try clear ho0))|(go_at_call 47;(with_reducible refine (spec_SubUnify.calls k _ _ t452 _ _ t453 _ _ t454 t465 t466 _ ?side1 ?side2 ?side3 ?side4 ?side5 ?side6 A5.out).mono ?_);(case side1=>exact qz55);(case side2=>exact (Kd.S_reads' HO456.out).2.1);(case side3=>exact qz85);(case side4=>exact (Kd.R_reads' HO458.out).2.1);(case side5=>exact qz84);(case side6=>exact (Kd.R_reads' HO460.out).2.1);rintro e w12 ⟨v467,rfl,ho0,hb⟩;have n0_:=Aside0.mk (Kd.S_below qz48 hb);have n1_:=Aside0.mk (Kd.R_below qz51 hb);have n2_:=Aside0.mk (Kd.R_below qz50 hb);have n3_:=Aside0.mk (Kd.S_below qz58 hb);have n4_:=Aside0.mk (Kd.S_lower ho0 (below_size qz4));have n5_:=Aside0.mk (below_step qz4 hb);clear HO456 HO458 HO460 HO464 HB;have HO456:=n0_;have HO458:=n1_;have HO460:=n2_;have HO464:=n3_;have HO468:=n4_;have HB:=n5_;clear n0_ n1_ n2_ n3_ n4_ n5_;(try clear hb);(try clear hb2);(try clear hk);(try clear hi);(try clear ho0)))
  (try simp only [Act.put,List.setIfInBounds_toArray,List.set_cons_zero,List.set_cons_succ])
  go_cut [52] (fun v52 wc=>∃ (kq:Nat) (x52_5:Bool),v52 = .bool x52_5∧Aside0 (laws_FnSubUnify.j0 kq t452 t453 t454 t461 t462 x52_5=some r)∧Aside0 (kq≤k)∧Aside0 (Kd.S k30 30 wc w.heap.size (fun _=>True) (.slice Ao8 t452.length co8) t452)∧Aside0 (Kd.R k46 46 wc w.heap.size (fun _=>True) (.slice Ao9 t453.length co9) t453)∧Aside0 (Kd.R k46 46 wc w.heap.size (fun _=>True) (.slice Ao10 t454.length co10) t454)∧Aside0 (Kd.S k30 30 wc w.heap.size (fun _=>True) v463 t461)∧Aside0 (Below w.heap.size w wc))
  case first=>
   have H:=HC6.out
   clear HC6
   replace H:=Option.bind_eq_some_iff.mp H
   obtain ⟨t469,A130,H⟩:=H
   try dsimp only at H
   have A13:=Aside0.mk A130
   clear A130
   by_cases c14:t469=true
   ·subst c14
    have H1:(if t462=t466 then ((impl_SubOk.f k t452).bind fun t470=>((spec_SubOk.f k t452).bind fun t471=>(laws_FnSubUnify.j0 k t452 t453 t454 t461 t462 (t470 != t471)))) else (laws_FnSubUnify.j0 k t452 t453 t454 t461 t462 true))=some r:=qz36
    clear H
    have H:=H1
    clear H1
    by_cases c15:t462=t466
    ·rw [if_pos c15] at H
     have c15b0:(t462 == t466)=true:=beq_iff_eq.mpr c15
     have c15b1:(t462 != t466)=false:=bne_eq_false_iff_eq.mpr c15
     clear c15
     (first|rw [c15b0]|(simp only [i64_w,i32_w];rw [c15b0])|skip)
     replace H:=Option.bind_eq_some_iff.mp H
     obtain ⟨t470,A160,H⟩:=H
     try dsimp only at H
     have A16:=Aside0.mk A160
     clear A160
     replace H:=Option.bind_eq_some_iff.mp H
     obtain ⟨t471,A170,H⟩:=H
     try dsimp only at H
     have A17:=Aside0.mk A170
     clear A170
     have H':=Aside0.mk H
     clear H
     obtain ⟨Ao18,co18,eo18⟩:=Kd.S_slice HO464.out
     subst eo18
     obtain ⟨Ao19,co19,eo19⟩:=Kd.S_slice HO468.out
     subst eo19
     go_wp2_with (first|(go_at_call 44;(with_reducible refine (laws_caBinds.calls k _ _ t461 _ _ t465 true _ ?side1 ?side2 ?side3 ?side4 A13.out).mono ?_);(case side1=>exact qz68);(case side2=>exact (Kd.S_reads' HO464.out).2.1);(case side3=>exact qz67);(case side4=>exact (Kd.S_reads' HO468.out).2.1);rintro e w' ⟨rfl,⟨nd,rfl⟩⟩)|(go_at_call 26;(with_reducible refine (impl_SubOk.calls k _ _ t452 t470 _ ?side1 ?side2 A16.out).mono ?_);(case side1=>exact qz55);(case side2=>exact (Kd.S_reads' HO456.out).2.1);rintro e w20 ⟨rfl,hb⟩;have n0_:=Aside0.mk (Kd.S_below qz48 hb);have n1_:=Aside0.mk (Kd.R_below qz51 hb);have n2_:=Aside0.mk (Kd.R_below qz50 hb);have n3_:=Aside0.mk (Kd.S_below qz58 hb);have n4_:=Aside0.mk (Kd.S_below (by (with_reducible repeat (first|apply Kd.S_alloc|apply Kd.S_drewN|apply Kd.S_drew));exact HO468.out) hb);have n5_:=Aside0.mk (below_step qz4 hb);clear HO456 HO458 HO460 HO464 HO468 HB;have HO456:=n0_;have HO458:=n1_;have HO460:=n2_;have HO464:=n3_;have HO468:=n4_;have HB:=n5_;clear n0_ n1_ n2_ n3_ n4_ n5_;(try clear hb);(try clear hb2);(try clear hk);(try clear hi))|(go_at_call 24;(with_reducible refine (spec_SubOk.calls k _ _ t452 t471 _ ?side1 ?side2 A17.out).mono ?_);(case side1=>exact qz55);(case side2=>exact (Kd.S_reads' HO456.out).2.1);rintro e w21 ⟨rfl,hb⟩;have n0_:=Aside0.mk (Kd.S_below qz48 hb);have n1_:=Aside0.mk (Kd.R_below qz51 hb);have n2_:=Aside0.mk (Kd.R_below qz50 hb);have n3_:=Aside0.mk (Kd.S_below qz58 hb);have n4_:=Aside0.mk (Kd.S_below (by (with_reducible repeat (first|apply Kd.S_alloc|apply Kd.S_drewN|apply Kd.S_drew));exact HO468.out) hb);have n5_:=Aside0.mk (below_step qz4 hb);clear HO456 HO458 HO460 HO464 HO468 HB;have HO456:=n0_;have HO458:=n1_;have HO460:=n2_;have HO464:=n3_;have HO468:=n4_;have HB:=n5_;clear n0_ n1_ n2_ n3_ n4_ n5_;(try clear hb);(try clear hb2);(try clear hk);(try clear hi)))
     go_meet
     case rel=>exact ⟨_,((t470 != t471)),qz9,H',⟨qz61⟩,⟨qz48⟩,⟨qz51⟩,⟨qz50⟩,⟨qz58⟩,⟨qz5⟩⟩
    ·rw [if_neg c15] at H
     have c15b0:(t462 == t466)=false:=beq_eq_false_iff_ne.mpr c15
     have c15b1:(t462 != t466)=true:=bne_iff_ne.mpr c15
     (first|rw [c15b0]|(simp only [i64_w,i32_w];rw [c15b0])|skip)
     have H':=Aside0.mk H
     clear H
     obtain ⟨Ao22,co22,eo22⟩:=Kd.S_slice HO464.out
     subst eo22
     obtain ⟨Ao23,co23,eo23⟩:=Kd.S_slice HO468.out
     subst eo23
     go_wp2_with (first|(go_at_call 44;(with_reducible refine (laws_caBinds.calls k _ _ t461 _ _ t465 true _ ?side1 ?side2 ?side3 ?side4 A13.out).mono ?_);(case side1=>exact qz68);(case side2=>exact (Kd.S_reads' HO464.out).2.1);(case side3=>exact qz67);(case side4=>exact (Kd.S_reads' HO468.out).2.1);rintro e w' ⟨rfl,⟨nd,rfl⟩⟩))
     go_meet
     case rel=>exact ⟨_,(true),qz9,H',⟨qz61⟩,⟨qz48⟩,⟨qz51⟩,⟨qz50⟩,⟨qz58⟩,⟨qz5⟩⟩
   ·replace c14:=Bool.eq_false_iff.mpr c14
    subst c14
    have H1:(laws_FnSubUnify.j0 k t452 t453 t454 t461 t462 true)=some r:=qz22
    clear H
    have H:=H1
    clear H1
    have H':=Aside0.mk H
    clear H
    obtain ⟨Ao24,co24,eo24⟩:=Kd.S_slice HO464.out
    subst eo24
    obtain ⟨Ao25,co25,eo25⟩:=Kd.S_slice HO468.out
    subst eo25
    go_wp2_with (first|(go_at_call 44;(with_reducible refine (laws_caBinds.calls k _ _ t461 _ _ t465 false _ ?side1 ?side2 ?side3 ?side4 A13.out).mono ?_);(case side1=>exact qz68);(case side2=>exact (Kd.S_reads' HO464.out).2.1);(case side3=>exact qz67);(case side4=>exact (Kd.S_reads' HO468.out).2.1);rintro e w' ⟨rfl,⟨nd,rfl⟩⟩))
    go_meet
    case rel=>exact ⟨_,(true),qz9,H',⟨qz61⟩,⟨qz48⟩,⟨qz51⟩,⟨qz50⟩,⟨qz58⟩,⟨qz5⟩⟩
  case rest=>
   clear HC6
   try clear c1
   try clear c2
   try clear c2b0
   try clear c2b1
   try clear p2
   try clear c3
   try clear c4
   try clear c14
   try clear c15
   try clear c15b0
   try clear c15b1
   obtain ⟨kq,x52_5,rfl,HA,HJ5,HO_3,HO_4,HO_5,HO_6,HB⟩:=hcut
   cases kq with
   | zero=>exact absurd HA.out (by simp [laws_FnSubUnify.j0])
   | succ kj5=>
    have H:=HA.out
    clear HA
    simp only [laws_FnSubUnify.j0] at H
    by_cases c26:x52_5=true
    ·subst c26
     have H1:(some false)=some r:=qz36
     clear H
     have H:=H1
     clear H1
     obtain rfl:=Option.some.inj H
     go_wp2
     go_ret
     exact ⟨qz7,qz5⟩
    ·replace c26:=Bool.eq_false_iff.mpr c26
     subst c26
     have H1:((spec_SubOk.f kj5 t452).bind fun t472=>(if t472=true then ((spec_TrmOk.f kj5 t453).bind fun t473=>(if t473=true then ((spec_TrmOk.f kj5 t454).bind fun t474=>(laws_FnSubUnify.j1 kj5 t452 t453 t454 t461 t462 (!t474))) else (laws_FnSubUnify.j1 kj5 t452 t453 t454 t461 t462 true))) else (laws_FnSubUnify.j1 kj5 t452 t453 t454 t461 t462 true)))=some r:=qz22
     clear H
     have H:=H1
     clear H1
     have HC27:=Aside0.mk H
     clear H
     go_upto_region 8 with (fail)
     go_cut [65] (fun v65 wc=>∃ (kq:Nat) (x65_26:Bool),v65 = .bool x65_26∧Aside0 (laws_FnSubUnify.j1 kq t452 t453 t454 t461 t462 x65_26=some r)∧Aside0 (kq≤kj5)∧Aside0 (Kd.S k30 30 wc w.heap.size (fun _=>True) (.slice Ao8 t452.length co8) t452)∧Aside0 (Kd.R k46 46 wc w.heap.size (fun _=>True) (.slice Ao9 t453.length co9) t453)∧Aside0 (Kd.R k46 46 wc w.heap.size (fun _=>True) (.slice Ao10 t454.length co10) t454)∧Aside0 (Kd.S k30 30 wc w.heap.size (fun _=>True) v463 t461)∧Aside0 (Below w.heap.size w wc))
     case first=>
      have H:=HC27.out
      clear HC27
      replace H:=Option.bind_eq_some_iff.mp H
      obtain ⟨t472,A280,H⟩:=H
      try dsimp only at H
      have A28:=Aside0.mk A280
      clear A280
      by_cases c29:t472=true
      ·subst c29
       have H1:((spec_TrmOk.f kj5 t453).bind fun t473=>(if t473=true then ((spec_TrmOk.f kj5 t454).bind fun t474=>(laws_FnSubUnify.j1 kj5 t452 t453 t454 t461 t462 (!t474))) else (laws_FnSubUnify.j1 kj5 t452 t453 t454 t461 t462 true)))=some r:=qz36
       clear H
       have H:=H1
       clear H1
       replace H:=Option.bind_eq_some_iff.mp H
       obtain ⟨t473,A300,H⟩:=H
       try dsimp only at H
       have A30:=Aside0.mk A300
       clear A300
       by_cases c31:t473=true
       ·subst c31
        have H1:((spec_TrmOk.f kj5 t454).bind fun t474=>(laws_FnSubUnify.j1 kj5 t452 t453 t454 t461 t462 (!t474)))=some r:=qz36
        clear H
        have H:=H1
        clear H1
        replace H:=Option.bind_eq_some_iff.mp H
        obtain ⟨t474,A320,H⟩:=H
        try dsimp only at H
        have A32:=Aside0.mk A320
        clear A320
        have H':=Aside0.mk H
        clear H
        go_wp2_with (first|(go_at_call 24;(with_reducible refine (spec_SubOk.calls kj5 _ _ t452 true _ ?side1 ?side2 A28.out).mono ?_);(case side1=>exact qz32);(case side2=>exact (Kd.S_reads' HO_3.out).2.1);rintro e w33 ⟨rfl,hb⟩;have n0_:=Aside0.mk (Kd.S_below qz15 hb);have n1_:=Aside0.mk (Kd.R_below qz26 hb);have n2_:=Aside0.mk (Kd.R_below qz13 hb);have n3_:=Aside0.mk (Kd.S_below qz25 hb);have n4_:=Aside0.mk (below_step qz4 hb);clear HO_3 HO_4 HO_5 HO_6 HB;have HO_3:=n0_;have HO_4:=n1_;have HO_5:=n2_;have HO_6:=n3_;have HB:=n4_;clear n0_ n1_ n2_ n3_ n4_;(try clear hb);(try clear hb2);(try clear hk);(try clear hi))|(go_at_call 30;(with_reducible refine (spec_TrmOk.calls kj5 _ _ t453 true _ ?side1 ?side2 A30.out).mono ?_);(case side1=>exact qz69);(case side2=>exact (Kd.R_reads' HO_4.out).2.1);rintro e w34 ⟨rfl,hb⟩;have n0_:=Aside0.mk (Kd.S_below qz15 hb);have n1_:=Aside0.mk (Kd.R_below qz26 hb);have n2_:=Aside0.mk (Kd.R_below qz13 hb);have n3_:=Aside0.mk (Kd.S_below qz25 hb);have n4_:=Aside0.mk (below_step qz4 hb);clear HO_3 HO_4 HO_5 HO_6 HB;have HO_3:=n0_;have HO_4:=n1_;have HO_5:=n2_;have HO_6:=n3_;have HB:=n4_;clear n0_ n1_ n2_ n3_ n4_;(try clear hb);(try clear hb2);(try clear hk);(try clear hi))|(go_at_call 30;(with_reducible refine (spec_TrmOk.calls kj5 _ _ t454 t474 _ ?side1 ?side2 A32.out).mono ?_);(case side1=>exact qz57);(case side2=>exact (Kd.R_reads' HO_5.out).2.1);rintro e w35 ⟨rfl,hb⟩;have n0_:=Aside0.mk (Kd.S_below qz15 hb);have n1_:=Aside0.mk (Kd.R_below qz26 hb);have n2_:=Aside0.mk (Kd.R_below qz13 hb);have n3_:=Aside0.mk (Kd.S_below qz25 hb);have n4_:=Aside0.mk (below_step qz4 hb);clear HO_3 HO_4 HO_5 HO_6 HB;have HO_3:=n0_;have HO_4:=n1_;have HO_5:=n2_;have HO_6:=n3_;have HB:=n4_;clear n0_ n1_ n2_ n3_ n4_;(try clear hb);(try clear hb2);(try clear hk);(try clear hi)))
        go_meet
        case rel=>exact ⟨_,(!t474),qz9,H',⟨by have:=HJ5.out;first|omega|exact Nat.le_refl _⟩,⟨qz15⟩,⟨qz26⟩,⟨qz13⟩,⟨qz25⟩,⟨qz5⟩⟩
       ·replace c31:=Bool.eq_false_iff.mpr c31
        subst c31
        have H1:(laws_FnSubUnify.j1 kj5 t452 t453 t454 t461 t462 true)=some r:=qz22
        clear H
        have H:=H1
        clear H1
        have H':=Aside0.mk H
        clear H
        go_wp2_with (first|(go_at_call 24;(with_reducible refine (spec_SubOk.calls kj5 _ _ t452 true _ ?side1 ?side2 A28.out).mono ?_);(case side1=>exact qz32);(case side2=>exact (Kd.S_reads' HO_3.out).2.1);rintro e w36 ⟨rfl,hb⟩;have n0_:=Aside0.mk (Kd.S_below qz15 hb);have n1_:=Aside0.mk (Kd.R_below qz26 hb);have n2_:=Aside0.mk (Kd.R_below qz13 hb);have n3_:=Aside0.mk (Kd.S_below qz25 hb);have n4_:=Aside0.mk (below_step qz4 hb);clear HO_3 HO_4 HO_5 HO_6 HB;have HO_3:=n0_;have HO_4:=n1_;have HO_5:=n2_;have HO_6:=n3_;have HB:=n4_;clear n0_ n1_ n2_ n3_ n4_;(try clear hb);(try clear hb2);(try clear hk);(try clear hi))|(go_at_call 30;(with_reducible refine (spec_TrmOk.calls kj5 _ _ t453 false _ ?side1 ?side2 A30.out).mono ?_);(case side1=>exact qz69);(case side2=>exact (Kd.R_reads' HO_4.out).2.1);rintro e w37 ⟨rfl,hb⟩;have n0_:=Aside0.mk (Kd.S_below qz15 hb);have n1_:=Aside0.mk (Kd.R_below qz26 hb);have n2_:=Aside0.mk (Kd.R_below qz13 hb);have n3_:=Aside0.mk (Kd.S_below qz25 hb);have n4_:=Aside0.mk (below_step qz4 hb);clear HO_3 HO_4 HO_5 HO_6 HB;have HO_3:=n0_;have HO_4:=n1_;have HO_5:=n2_;have HO_6:=n3_;have HB:=n4_;clear n0_ n1_ n2_ n3_ n4_;(try clear hb);(try clear hb2);(try clear hk);(try clear hi)))
        go_meet
        case rel=>exact ⟨_,(true),qz9,H',⟨by have:=HJ5.out;first|omega|exact Nat.le_refl _⟩,⟨qz15⟩,⟨qz26⟩,⟨qz13⟩,⟨qz25⟩,⟨qz5⟩⟩
      ·replace c29:=Bool.eq_false_iff.mpr c29
       subst c29
       have H1:(laws_FnSubUnify.j1 kj5 t452 t453 t454 t461 t462 true)=some r:=qz22
       clear H
       have H:=H1
       clear H1
       have H':=Aside0.mk H
       clear H
       go_wp2_with (first|(go_at_call 24;(with_reducible refine (spec_SubOk.calls kj5 _ _ t452 false _ ?side1 ?side2 A28.out).mono ?_);(case side1=>exact qz32);(case side2=>exact (Kd.S_reads' HO_3.out).2.1);rintro e w38 ⟨rfl,hb⟩;have n0_:=Aside0.mk (Kd.S_below qz15 hb);have n1_:=Aside0.mk (Kd.R_below qz26 hb);have n2_:=Aside0.mk (Kd.R_below qz13 hb);have n3_:=Aside0.mk (Kd.S_below qz25 hb);have n4_:=Aside0.mk (below_step qz4 hb);clear HO_3 HO_4 HO_5 HO_6 HB;have HO_3:=n0_;have HO_4:=n1_;have HO_5:=n2_;have HO_6:=n3_;have HB:=n4_;clear n0_ n1_ n2_ n3_ n4_;(try clear hb);(try clear hb2);(try clear hk);(try clear hi)))
       go_meet
       case rel=>exact ⟨_,(true),qz9,H',⟨by have:=HJ5.out;first|omega|exact Nat.le_refl _⟩,⟨qz15⟩,⟨qz26⟩,⟨qz13⟩,⟨qz25⟩,⟨qz5⟩⟩
     case rest=>
      clear HC27
      try clear c1
      try clear c2
      try clear c2b0
      try clear c2b1
      try clear p2
      try clear c3
      try clear c4
      try clear c14
      try clear c15
      try clear c15b0
      try clear c15b1
      try clear c24
      try clear c26
      try clear c29
      try clear c31
      try clear p2
      obtain ⟨kq,x65_26,rfl,HA,HJ26,HO_3,HO_4,HO_5,HO_6,HB⟩:=hcut
      cases kq with
      | zero=>exact absurd HA.out (by simp [laws_FnSubUnify.j1])
      | succ kj26=>
       have H:=HA.out
       clear HA
       simp only [laws_FnSubUnify.j1] at H
       by_cases c39:x65_26=true
       ·subst c39
        have H1:(if t462=4 then (if (t461.length:Int)=0 then ((laws_caOk.f).bind fun t475=>(laws_FnSubUnify.j2 kj26 t475)) else (laws_FnSubUnify.j2 kj26 false)) else (laws_FnSubUnify.j2 kj26 false))=some r:=qz36
        clear H
        have H:=H1
        clear H1
        have HC40:=Aside0.mk H
        clear H
        go_upto_region 9 with (fail)
        go_cut [2] (fun v2 wc=>∃ (kq:Nat) (x2_39:Bool),v2 = .bool x2_39∧Aside0 (laws_FnSubUnify.j2 kq x2_39=some r)∧Aside0 (kq≤kj26)∧Aside0 (Below w.heap.size w wc))
        case first=>
         have H:=HC40.out
         clear HC40
         by_cases c41:t462=4
         ·rw [if_pos c41] at H
          have c41b0:(t462 == 4)=true:=beq_iff_eq.mpr c41
          have c41b1:(t462 != 4)=false:=bne_eq_false_iff_eq.mpr c41
          clear c41
          (first|rw [c41b0]|(simp only [i64_w,i32_w];rw [c41b0])|skip)
          by_cases c42:(t461.length:Int)=0
          ·rw [if_pos c42] at H
           have c42b0:((t461.length:Int) == 0)=true:=beq_iff_eq.mpr c42
           have c42b1:((t461.length:Int) != 0)=false:=bne_eq_false_iff_eq.mpr c42
           clear c42
           replace H:=Option.bind_eq_some_iff.mp H
           obtain ⟨t475,A430,H⟩:=H
           try dsimp only at H
           have A43:=Aside0.mk A430
           clear A430
           have H':=Aside0.mk H
           clear H
           obtain ⟨Ao44,co44,eo44⟩:=Kd.S_slice HO_6.out
           subst eo44
           go_wp2_with (first|(go_at_call 22;(with_reducible refine (laws_caOk.calls  t475 _ A43.out).mono ?_);rintro e w45 ⟨rfl,hb⟩;have n0_:=Aside0.mk (Kd.S_below qz15 hb);have n1_:=Aside0.mk (Kd.R_below qz26 hb);have n2_:=Aside0.mk (Kd.R_below qz13 hb);have n3_:=Aside0.mk (Kd.S_below qz25 hb);have n4_:=Aside0.mk (below_step qz4 hb);clear HO_3 HO_4 HO_5 HO_6 HB;have HO_3:=n0_;have HO_4:=n1_;have HO_5:=n2_;have HO_6:=n3_;have HB:=n4_;clear n0_ n1_ n2_ n3_ n4_;(try clear hb);(try clear hb2);(try clear hk);(try clear hi)))
           go_meet
           case rel=>exact ⟨_,(t475),qz9,H',⟨qz42⟩,⟨qz5⟩⟩
          ·rw [if_neg c42] at H
           have c42b0:((t461.length:Int) == 0)=false:=beq_eq_false_iff_ne.mpr c42
           have c42b1:((t461.length:Int) != 0)=true:=bne_iff_ne.mpr c42
           have c42b2:¬ (t461=[]):=fun h_=>c42 (by rw [h_];rfl)
           have H':=Aside0.mk H
           clear H
           obtain ⟨Ao46,co46,eo46⟩:=Kd.S_slice HO_6.out
           subst eo46
           go_wp2
           go_meet
           case rel=>exact ⟨_,(false),qz9,H',⟨qz42⟩,⟨qz5⟩⟩
         ·rw [if_neg c41] at H
          have c41b0:(t462 == 4)=false:=beq_eq_false_iff_ne.mpr c41
          have c41b1:(t462 != 4)=true:=bne_iff_ne.mpr c41
          (first|rw [c41b0]|(simp only [i64_w,i32_w];rw [c41b0])|skip)
          have H':=Aside0.mk H
          clear H
          go_wp2
          go_meet
          case rel=>exact ⟨_,(false),qz9,H',⟨qz42⟩,⟨qz5⟩⟩
        case rest=>
         clear HC40
         try clear c1
         try clear c2
         try clear c2b0
         try clear c2b1
         try clear p2
         try clear c3
         try clear c4
         try clear c14
         try clear c15
         try clear c15b0
         try clear c15b1
         try clear c24
         try clear c26
         try clear c29
         try clear c31
         try clear c39
         try clear c41
         try clear c41b0
         try clear c41b1
         try clear c42
         try clear c42b0
         try clear c42b1
         try clear c42b2
         try clear c43
         try clear c44
         try clear p2
         obtain ⟨kq,x2_39,rfl,HA,HJ39,HB⟩:=hcut
         cases kq with
         | zero=>exact absurd HA.out (by simp [laws_FnSubUnify.j2])
         | succ kj39=>
          have H:=HA.out
          clear HA
          simp only [laws_FnSubUnify.j2] at H
          obtain rfl:=Option.some.inj H
          go_wp2
          go_ret
          exact ⟨qz7,qz5⟩
       ·replace c39:=Bool.eq_false_iff.mpr c39
        subst c39
        have H1:(if t462=1 then ((impl_SubFull.f kj26 t461 t453).bind fun bt476=>((impl_SubFull.f kj26 t461 t454).bind fun bt480=>((impl_SubOk.f kj26 t461).bind fun t484=>(if t484=true then (if (t461.length:Int)≥(t452.length:Int) then (if 0≤(t452.length:Int) then (if (t452.length:Int)≤(t461.length:Int) then ((laws_caBinds.f kj26 (t461.take ((t452.length:Int):Int).toNat) t452).bind fun t489=>(if t489=true then (if bt476.2=true then (if bt480.2=true then ((laws_caTerm.f kj26 bt476.1 bt480.1).bind fun t490=>(laws_FnSubUnify.j4 kj26 t490)) else (laws_FnSubUnify.j4 kj26 false)) else (laws_FnSubUnify.j4 kj26 false)) else (laws_FnSubUnify.j4 kj26 false))) else (none)) else (none)) else (laws_FnSubUnify.j4 kj26 false)) else (laws_FnSubUnify.j4 kj26 false))))) else (if (t461.length:Int)=0 then (if t462=2 then (laws_FnSubUnify.j3 kj26 true) else (laws_FnSubUnify.j3 kj26 (t462 == 3))) else (laws_FnSubUnify.j3 kj26 false)))=some r:=qz22
        clear H
        have H:=H1
        clear H1
        by_cases c47:t462=1
        ·rw [if_pos c47] at H
         have c47b0:(t462 == 1)=true:=beq_iff_eq.mpr c47
         have c47b1:(t462 != 1)=false:=bne_eq_false_iff_eq.mpr c47
         clear c47
         replace H:=Option.bind_eq_some_iff.mp H
         obtain ⟨⟨t476,t477⟩,A480,H⟩:=H
         try dsimp only at H
         have A48:=Aside0.mk A480
         clear A480
         replace H:=Option.bind_eq_some_iff.mp H
         obtain ⟨⟨t480,t481⟩,A490,H⟩:=H
         try dsimp only at H
         have A49:=Aside0.mk A490
         clear A490
         have HC50:=Aside0.mk H
         clear H
         obtain ⟨Ao51,co51,eo51⟩:=Kd.S_slice HO_6.out
         subst eo51
         go_upto_region 14 with (first|(go_at_call 36;(with_reducible refine (impl_SubFull.calls kj26 _ _ t461 _ _ t453 t476 t477 _ ?side1 ?side2 ?side3 ?side4 A48.out).mono ?_);(case side1=>exact qz29);(case side2=>exact (Kd.S_reads' HO_6.out).2.1);(case side3=>exact qz69);(case side4=>exact (Kd.R_reads' HO_4.out).2.1);rintro e w52 ⟨v478,rfl,ho0,hb⟩;have n0_:=Aside0.mk (Kd.S_below qz15 hb);have n1_:=Aside0.mk (Kd.R_below qz26 hb);have n2_:=Aside0.mk (Kd.R_below qz13 hb);have n3_:=Aside0.mk (Kd.S_below qz25 hb);have n4_:=Aside0.mk (Kd.R_lower ho0 (below_size qz4));have n5_:=Aside0.mk (below_step qz4 hb);clear HO_3 HO_4 HO_5 HO_6 HB;have HO_3:=n0_;have HO_4:=n1_;have HO_5:=n2_;have HO_6:=n3_;have HO479:=n4_;have HB:=n5_;clear n0_ n1_ n2_ n3_ n4_ n5_;(try clear hb);(try clear hb2);(try clear hk);(try clear hi);(try clear ho0))|(go_at_call 36;(with_reducible refine (impl_SubFull.calls kj26 _ _ t461 _ _ t454 t480 t481 _ ?side1 ?side2 ?side3 ?side4 A49.out).mono ?_);(case side1=>exact qz29);(case side2=>exact (Kd.S_reads' HO_6.out).2.1);(case side3=>exact qz57);(case side4=>exact (Kd.R_reads' HO_5.out).2.1);rintro e w53 ⟨v482,rfl,ho0,hb⟩;have n0_:=Aside0.mk (Kd.S_below qz15 hb);have n1_:=Aside0.mk (Kd.R_below qz26 hb);have n2_:=Aside0.mk (Kd.R_below qz13 hb);have n3_:=Aside0.mk (Kd.S_below qz25 hb);have n4_:=Aside0.mk (Kd.R_below qz49 hb);have n5_:=Aside0.mk (Kd.R_lower ho0 (below_size qz4));have n6_:=Aside0.mk (below_step qz4 hb);clear HO_3 HO_4 HO_5 HO_6 HO479 HB;have HO_3:=n0_;have HO_4:=n1_;have HO_5:=n2_;have HO_6:=n3_;have HO479:=n4_;have HO483:=n5_;have HB:=n6_;clear n0_ n1_ n2_ n3_ n4_ n5_ n6_;(try clear hb);(try clear hb2);(try clear hk);(try clear hi);(try clear ho0)))
         (try simp only [Act.put,List.setIfInBounds_toArray,List.set_cons_zero,List.set_cons_succ])
         go_cut [2] (fun v2 wc=>∃ (kq:Nat) (x2_49:Bool),v2 = .bool x2_49∧Aside0 (laws_FnSubUnify.j4 kq x2_49=some r)∧Aside0 (kq≤kj26)∧Aside0 (Below w.heap.size w wc))
         case first=>
          have H:=HC50.out
          clear HC50
          replace H:=Option.bind_eq_some_iff.mp H
          obtain ⟨t484,A540,H⟩:=H
          try dsimp only at H
          have A54:=Aside0.mk A540
          clear A540
          by_cases c55:t484=true
          ·subst c55
           have H1:(if (t461.length:Int)≥(t452.length:Int) then (if 0≤(t452.length:Int) then (if (t452.length:Int)≤(t461.length:Int) then ((laws_caBinds.f kj26 (t461.take ((t452.length:Int):Int).toNat) t452).bind fun t489=>(if t489=true then (if t477=true then (if t481=true then ((laws_caTerm.f kj26 t476 t480).bind fun t490=>(laws_FnSubUnify.j4 kj26 t490)) else (laws_FnSubUnify.j4 kj26 false)) else (laws_FnSubUnify.j4 kj26 false)) else (laws_FnSubUnify.j4 kj26 false))) else (none)) else (none)) else (laws_FnSubUnify.j4 kj26 false))=some r:=qz36
           clear H
           have H:=H1
           clear H1
           by_cases c56:(t461.length:Int)≥(t452.length:Int)
           ·rw [if_pos c56] at H
            have c56b0:decide ((t452.length:Int)≤(t461.length:Int))=true:=decide_eq_true c56
            have c56b1:decide (t452.length≤t461.length)=true:=decide_eq_true (Int.ofNat_le.mp c56)
            clear c56
            (first|rw [c56b0]|(simp only [i64_w,i32_w];rw [c56b0])|skip)
            by_cases c57:0≤(t452.length:Int)
            ·rw [if_pos c57] at H
             have c57b0:=eq_true c57
             have c57b1:decide (0≤(t452.length:Int))=true:=decide_eq_true c57
             clear c57
             by_cases c58:(t452.length:Int)≤(t461.length:Int)
             ·rw [if_pos c58] at H
              have c58b0:=eq_true c58
              have c58b1:decide ((t452.length:Int)≤(t461.length:Int))=true:=decide_eq_true c58
              clear c58
              obtain ⟨y485,hy485⟩:∃ y_:List (S30),y_=(t461.take ((t452.length:Int):Int).toNat):=⟨_,rfl⟩
              replace H:((laws_caBinds.f kj26 y485 t452).bind fun t489=>(if t489=true then (if t477=true then (if t481=true then ((laws_caTerm.f kj26 t476 t480).bind fun t490=>(laws_FnSubUnify.j4 kj26 t490)) else (laws_FnSubUnify.j4 kj26 false)) else (laws_FnSubUnify.j4 kj26 false)) else (laws_FnSubUnify.j4 kj26 false)))=some r:=by first|(rw [hy485];exact H)|exact H
              have Ny485:=Aside0.mk hy485
              clear hy485
              replace H:=Option.bind_eq_some_iff.mp H
              obtain ⟨t489,A590,H⟩:=H
              try dsimp only at H
              have A59:=Aside0.mk A590
              clear A590
              by_cases c60:t489=true
              ·subst c60
               have H1:(if t477=true then (if t481=true then ((laws_caTerm.f kj26 t476 t480).bind fun t490=>(laws_FnSubUnify.j4 kj26 t490)) else (laws_FnSubUnify.j4 kj26 false)) else (laws_FnSubUnify.j4 kj26 false))=some r:=qz36
               clear H
               have H:=H1
               clear H1
               by_cases c61:t477=true
               ·subst c61
                have H1:(if t481=true then ((laws_caTerm.f kj26 t476 t480).bind fun t490=>(laws_FnSubUnify.j4 kj26 t490)) else (laws_FnSubUnify.j4 kj26 false))=some r:=qz36
                clear H
                have H:=H1
                clear H1
                by_cases c62:t481=true
                ·subst c62
                 have H1:((laws_caTerm.f kj26 t476 t480).bind fun t490=>(laws_FnSubUnify.j4 kj26 t490))=some r:=qz36
                 clear H
                 have H:=H1
                 clear H1
                 replace H:=Option.bind_eq_some_iff.mp H
                 obtain ⟨t490,A630,H⟩:=H
                 try dsimp only at H
                 have A63:=Aside0.mk A630
                 clear A630
                 have H':=Aside0.mk H
                 clear H
                 go_wp2_with (first|(go_at_call 26;(with_reducible refine (impl_SubOk.calls kj26 _ _ t461 true _ ?side1 ?side2 A54.out).mono ?_);(case side1=>exact qz29);(case side2=>exact (Kd.S_reads' HO_6.out).2.1);rintro e w64 ⟨rfl,hb⟩;have n0_:=Aside0.mk (Kd.S_below qz15 hb);have n1_:=Aside0.mk (Kd.R_below qz26 hb);have n2_:=Aside0.mk (Kd.R_below qz13 hb);have n3_:=Aside0.mk (Kd.S_below qz25 hb);have n4_:=Aside0.mk (Kd.R_below qz49 hb);have n5_:=Aside0.mk (Kd.R_below qz59 hb);have n6_:=Aside0.mk (below_step qz4 hb);clear HO_3 HO_4 HO_5 HO_6 HO479 HO483 HB;have HO_3:=n0_;have HO_4:=n1_;have HO_5:=n2_;have HO_6:=n3_;have HO479:=n4_;have HO483:=n5_;have HB:=n6_;clear n0_ n1_ n2_ n3_ n4_ n5_ n6_;(try clear hb);(try clear hb2);(try clear hk);(try clear hi);have q65:((t452.length:Int):Int)≤((t461.length:Int):Int):=of_decide_eq_true qz6;obtain ⟨i065,hi065,_,hsz65,_⟩:=info_parts info30;have hroom65:t461.length≤co51:=(Kd.S_reads' HO_6.out).2.1;have hC65:Kd.C k30 _ Ao51 t461.length t461:=(Kd.S_reads' HO_6.out).2.2;have hcut65:=cut_to (P:=Tryd.prog) 23 30 .i64 Tryd.underlying23 hi065 Ao51 t461.length co51 (t452.length:Int) (of_decide_eq_true qz6) q65 hroom65;have hr65:=Kd.C_take (m:=((t452.length:Int):Int).toNat) hC65 (by omega);have hy65:y485.length=((t452.length:Int):Int).toNat:=qz99;rw [← Ny485.out] at hr65;rw [← hy65] at hcut65;have HR488:=Aside0.mk hr65;have HC488:=Aside0.mk (show y485.length≤co51 from by omega);clear hr65 hC65 hroom65 hi065 hsz65;have KY65:=Aside0.mk hy65;clear hy65;have KL65:=Aside0.mk (show ((t452.length:Int):Int).toNat≤t461.length from by omega);replace q65:=eq_true q65)|(go_at_call 44;(with_reducible refine (laws_caBinds.calls kj26 _ _ y485 _ _ t452 true _ ?side1 ?side2 ?side3 ?side4 A59.out).mono ?_);(case side1=>exact qz31);(case side2=>exact HC488.out);(case side3=>exact qz32);(case side4=>exact (Kd.S_reads' HO_3.out).2.1);rintro e w' ⟨rfl,⟨nd,rfl⟩⟩;obtain ⟨Ao66,co66,eo66⟩:=Kd.R_slice HO479.out;subst eo66;obtain ⟨Ao67,co67,eo67⟩:=Kd.R_slice HO483.out;subst eo67)|(go_at_call 20;(with_reducible refine (laws_caTerm.calls kj26 _ _ t476 _ _ t480 t490 _ ?side1 ?side2 ?side3 ?side4 A63.out).mono ?_);(case side1=>repeat (first|exact (Kd.R_reads' HO479.out).2.2|(with_reducible refine Kd.C_alloc ?_ _)|(with_reducible refine Kd.C_drewN ?_ _)|(with_reducible refine Kd.C_drew ?_)));(case side2=>exact (Kd.R_reads' HO479.out).2.1);(case side3=>repeat (first|exact (Kd.R_reads' HO483.out).2.2|(with_reducible refine Kd.C_alloc ?_ _)|(with_reducible refine Kd.C_drewN ?_ _)|(with_reducible refine Kd.C_drew ?_)));(case side4=>exact (Kd.R_reads' HO483.out).2.1);rintro e w' ⟨rfl,⟨nd,rfl⟩⟩))
                 go_meet
                 case rel=>exact ⟨_,(t490),qz9,H',⟨qz42⟩,⟨qz5⟩⟩
                ·replace c62:=Bool.eq_false_iff.mpr c62
                 subst c62
                 have H1:(laws_FnSubUnify.j4 kj26 false)=some r:=qz22
                 clear H
                 have H:=H1
                 clear H1
                 have H':=Aside0.mk H
                 clear H
                 go_wp2_with (first|(go_at_call 26;(with_reducible refine (impl_SubOk.calls kj26 _ _ t461 true _ ?side1 ?side2 A54.out).mono ?_);(case side1=>exact qz29);(case side2=>exact (Kd.S_reads' HO_6.out).2.1);rintro e w68 ⟨rfl,hb⟩;have n0_:=Aside0.mk (Kd.S_below qz15 hb);have n1_:=Aside0.mk (Kd.R_below qz26 hb);have n2_:=Aside0.mk (Kd.R_below qz13 hb);have n3_:=Aside0.mk (Kd.S_below qz25 hb);have n4_:=Aside0.mk (Kd.R_below qz49 hb);have n5_:=Aside0.mk (Kd.R_below qz59 hb);have n6_:=Aside0.mk (below_step qz4 hb);clear HO_3 HO_4 HO_5 HO_6 HO479 HO483 HB;have HO_3:=n0_;have HO_4:=n1_;have HO_5:=n2_;have HO_6:=n3_;have HO479:=n4_;have HO483:=n5_;have HB:=n6_;clear n0_ n1_ n2_ n3_ n4_ n5_ n6_;(try clear hb);(try clear hb2);(try clear hk);(try clear hi);have q69:((t452.length:Int):Int)≤((t461.length:Int):Int):=of_decide_eq_true qz6;obtain ⟨i069,hi069,_,hsz69,_⟩:=info_parts info30;have hroom69:t461.length≤co51:=(Kd.S_reads' HO_6.out).2.1;have hC69:Kd.C k30 _ Ao51 t461.length t461:=(Kd.S_reads' HO_6.out).2.2;have hcut69:=cut_to (P:=Tryd.prog) 23 30 .i64 Tryd.underlying23 hi069 Ao51 t461.length co51 (t452.length:Int) (of_decide_eq_true qz6) q69 hroom69;have hr69:=Kd.C_take (m:=((t452.length:Int):Int).toNat) hC69 (by omega);have hy69:y485.length=((t452.length:Int):Int).toNat:=qz99;rw [← Ny485.out] at hr69;rw [← hy69] at hcut69;have HR488:=Aside0.mk hr69;have HC488:=Aside0.mk (show y485.length≤co51 from by omega);clear hr69 hC69 hroom69 hi069 hsz69;have KY69:=Aside0.mk hy69;clear hy69;have KL69:=Aside0.mk (show ((t452.length:Int):Int).toNat≤t461.length from by omega);replace q69:=eq_true q69)|(go_at_call 44;(with_reducible refine (laws_caBinds.calls kj26 _ _ y485 _ _ t452 true _ ?side1 ?side2 ?side3 ?side4 A59.out).mono ?_);(case side1=>exact qz31);(case side2=>exact HC488.out);(case side3=>exact qz32);(case side4=>exact (Kd.S_reads' HO_3.out).2.1);rintro e w' ⟨rfl,⟨nd,rfl⟩⟩))
                 go_meet
                 case rel=>exact ⟨_,(false),qz9,H',⟨qz42⟩,⟨qz5⟩⟩
               ·replace c61:=Bool.eq_false_iff.mpr c61
                subst c61
                have H1:(laws_FnSubUnify.j4 kj26 false)=some r:=qz22
                clear H
                have H:=H1
                clear H1
                have H':=Aside0.mk H
                clear H
                go_wp2_with (first|(go_at_call 26;(with_reducible refine (impl_SubOk.calls kj26 _ _ t461 true _ ?side1 ?side2 A54.out).mono ?_);(case side1=>exact qz29);(case side2=>exact (Kd.S_reads' HO_6.out).2.1);rintro e w70 ⟨rfl,hb⟩;have n0_:=Aside0.mk (Kd.S_below qz15 hb);have n1_:=Aside0.mk (Kd.R_below qz26 hb);have n2_:=Aside0.mk (Kd.R_below qz13 hb);have n3_:=Aside0.mk (Kd.S_below qz25 hb);have n4_:=Aside0.mk (Kd.R_below qz49 hb);have n5_:=Aside0.mk (Kd.R_below qz59 hb);have n6_:=Aside0.mk (below_step qz4 hb);clear HO_3 HO_4 HO_5 HO_6 HO479 HO483 HB;have HO_3:=n0_;have HO_4:=n1_;have HO_5:=n2_;have HO_6:=n3_;have HO479:=n4_;have HO483:=n5_;have HB:=n6_;clear n0_ n1_ n2_ n3_ n4_ n5_ n6_;(try clear hb);(try clear hb2);(try clear hk);(try clear hi);have q71:((t452.length:Int):Int)≤((t461.length:Int):Int):=of_decide_eq_true qz6;obtain ⟨i071,hi071,_,hsz71,_⟩:=info_parts info30;have hroom71:t461.length≤co51:=(Kd.S_reads' HO_6.out).2.1;have hC71:Kd.C k30 _ Ao51 t461.length t461:=(Kd.S_reads' HO_6.out).2.2;have hcut71:=cut_to (P:=Tryd.prog) 23 30 .i64 Tryd.underlying23 hi071 Ao51 t461.length co51 (t452.length:Int) (of_decide_eq_true qz6) q71 hroom71;have hr71:=Kd.C_take (m:=((t452.length:Int):Int).toNat) hC71 (by omega);have hy71:y485.length=((t452.length:Int):Int).toNat:=qz99;rw [← Ny485.out] at hr71;rw [← hy71] at hcut71;have HR488:=Aside0.mk hr71;have HC488:=Aside0.mk (show y485.length≤co51 from by omega);clear hr71 hC71 hroom71 hi071 hsz71;have KY71:=Aside0.mk hy71;clear hy71;have KL71:=Aside0.mk (show ((t452.length:Int):Int).toNat≤t461.length from by omega);replace q71:=eq_true q71)|(go_at_call 44;(with_reducible refine (laws_caBinds.calls kj26 _ _ y485 _ _ t452 true _ ?side1 ?side2 ?side3 ?side4 A59.out).mono ?_);(case side1=>exact qz31);(case side2=>exact HC488.out);(case side3=>exact qz32);(case side4=>exact (Kd.S_reads' HO_3.out).2.1);rintro e w' ⟨rfl,⟨nd,rfl⟩⟩))
                go_meet
                case rel=>exact ⟨_,(false),qz9,H',⟨qz42⟩,⟨qz5⟩⟩
              ·replace c60:=Bool.eq_false_iff.mpr c60
               subst c60
               have H1:(laws_FnSubUnify.j4 kj26 false)=some r:=qz22
               clear H
               have H:=H1
               clear H1
               have H':=Aside0.mk H
               clear H
               go_wp2_with (first|(go_at_call 26;(with_reducible refine (impl_SubOk.calls kj26 _ _ t461 true _ ?side1 ?side2 A54.out).mono ?_);(case side1=>exact qz29);(case side2=>exact (Kd.S_reads' HO_6.out).2.1);rintro e w72 ⟨rfl,hb⟩;have n0_:=Aside0.mk (Kd.S_below qz15 hb);have n1_:=Aside0.mk (Kd.R_below qz26 hb);have n2_:=Aside0.mk (Kd.R_below qz13 hb);have n3_:=Aside0.mk (Kd.S_below qz25 hb);have n4_:=Aside0.mk (Kd.R_below qz49 hb);have n5_:=Aside0.mk (Kd.R_below qz59 hb);have n6_:=Aside0.mk (below_step qz4 hb);clear HO_3 HO_4 HO_5 HO_6 HO479 HO483 HB;have HO_3:=n0_;have HO_4:=n1_;have HO_5:=n2_;have HO_6:=n3_;have HO479:=n4_;have HO483:=n5_;have HB:=n6_;clear n0_ n1_ n2_ n3_ n4_ n5_ n6_;(try clear hb);(try clear hb2);(try clear hk);(try clear hi);have q73:((t452.length:Int):Int)≤((t461.length:Int):Int):=of_decide_eq_true qz6;obtain ⟨i073,hi073,_,hsz73,_⟩:=info_parts info30;have hroom73:t461.length≤co51:=(Kd.S_reads' HO_6.out).2.1;have hC73:Kd.C k30 _ Ao51 t461.length t461:=(Kd.S_reads' HO_6.out).2.2;have hcut73:=cut_to (P:=Tryd.prog) 23 30 .i64 Tryd.underlying23 hi073 Ao51 t461.length co51 (t452.length:Int) (of_decide_eq_true qz6) q73 hroom73;have hr73:=Kd.C_take (m:=((t452.length:Int):Int).toNat) hC73 (by omega);have hy73:y485.length=((t452.length:Int):Int).toNat:=qz99;rw [← Ny485.out] at hr73;rw [← hy73] at hcut73;have HR488:=Aside0.mk hr73;have HC488:=Aside0.mk (show y485.length≤co51 from by omega);clear hr73 hC73 hroom73 hi073 hsz73;have KY73:=Aside0.mk hy73;clear hy73;have KL73:=Aside0.mk (show ((t452.length:Int):Int).toNat≤t461.length from by omega);replace q73:=eq_true q73)|(go_at_call 44;(with_reducible refine (laws_caBinds.calls kj26 _ _ y485 _ _ t452 false _ ?side1 ?side2 ?side3 ?side4 A59.out).mono ?_);(case side1=>exact qz31);(case side2=>exact HC488.out);(case side3=>exact qz32);(case side4=>exact (Kd.S_reads' HO_3.out).2.1);rintro e w' ⟨rfl,⟨nd,rfl⟩⟩))
               go_meet
               case rel=>exact ⟨_,(false),qz9,H',⟨qz42⟩,⟨qz5⟩⟩
             ·rw [if_neg c58] at H
              exact absurd H (by simp)
            ·rw [if_neg c57] at H
             exact absurd H (by simp)
           ·rw [if_neg c56] at H
            have c56b0:decide ((t452.length:Int)≤(t461.length:Int))=false:=decide_eq_false c56
            have c56b1:decide (t452.length≤t461.length)=false:=decide_eq_false (fun h=>c56 (Int.ofNat_le.mpr h))
            clear c56
            (first|rw [c56b0]|(simp only [i64_w,i32_w];rw [c56b0])|skip)
            have H':=Aside0.mk H
            clear H
            go_wp2_with (first|(go_at_call 26;(with_reducible refine (impl_SubOk.calls kj26 _ _ t461 true _ ?side1 ?side2 A54.out).mono ?_);(case side1=>exact qz29);(case side2=>exact (Kd.S_reads' HO_6.out).2.1);rintro e w74 ⟨rfl,hb⟩;have n0_:=Aside0.mk (Kd.S_below qz15 hb);have n1_:=Aside0.mk (Kd.R_below qz26 hb);have n2_:=Aside0.mk (Kd.R_below qz13 hb);have n3_:=Aside0.mk (Kd.S_below qz25 hb);have n4_:=Aside0.mk (Kd.R_below qz49 hb);have n5_:=Aside0.mk (Kd.R_below qz59 hb);have n6_:=Aside0.mk (below_step qz4 hb);clear HO_3 HO_4 HO_5 HO_6 HO479 HO483 HB;have HO_3:=n0_;have HO_4:=n1_;have HO_5:=n2_;have HO_6:=n3_;have HO479:=n4_;have HO483:=n5_;have HB:=n6_;clear n0_ n1_ n2_ n3_ n4_ n5_ n6_;(try clear hb);(try clear hb2);(try clear hk);(try clear hi)))
            go_meet
            case rel=>exact ⟨_,(false),qz9,H',⟨qz42⟩,⟨qz5⟩⟩
          ·replace c55:=Bool.eq_false_iff.mpr c55
           subst c55
           have H1:(laws_FnSubUnify.j4 kj26 false)=some r:=qz22
           clear H
           have H:=H1
           clear H1
           have H':=Aside0.mk H
           clear H
           go_wp2_with (first|(go_at_call 26;(with_reducible refine (impl_SubOk.calls kj26 _ _ t461 false _ ?side1 ?side2 A54.out).mono ?_);(case side1=>exact qz29);(case side2=>exact (Kd.S_reads' HO_6.out).2.1);rintro e w75 ⟨rfl,hb⟩;have n0_:=Aside0.mk (Kd.S_below qz15 hb);have n1_:=Aside0.mk (Kd.R_below qz26 hb);have n2_:=Aside0.mk (Kd.R_below qz13 hb);have n3_:=Aside0.mk (Kd.S_below qz25 hb);have n4_:=Aside0.mk (Kd.R_below qz49 hb);have n5_:=Aside0.mk (Kd.R_below qz59 hb);have n6_:=Aside0.mk (below_step qz4 hb);clear HO_3 HO_4 HO_5 HO_6 HO479 HO483 HB;have HO_3:=n0_;have HO_4:=n1_;have HO_5:=n2_;have HO_6:=n3_;have HO479:=n4_;have HO483:=n5_;have HB:=n6_;clear n0_ n1_ n2_ n3_ n4_ n5_ n6_;(try clear hb);(try clear hb2);(try clear hk);(try clear hi)))
           go_meet
           case rel=>exact ⟨_,(false),qz9,H',⟨qz42⟩,⟨qz5⟩⟩
         case rest=>
          clear HC50
          try clear c1
          try clear c2
          try clear c2b0
          try clear c2b1
          try clear p2
          try clear c3
          try clear c4
          try clear c5
          try clear c6
          try clear q6
          try clear q7
          try clear c14
          try clear c15
          try clear c15b0
          try clear c15b1
          try clear c24
          try clear c26
          try clear c29
          try clear c31
          try clear c36
          try clear c39
          try clear c41
          try clear c41b0
          try clear c41b1
          try clear c42
          try clear c42b0
          try clear c42b1
          try clear c42b2
          try clear c43
          try clear c44
          try clear c47
          try clear c47b0
          try clear c47b1
          try clear c55
          try clear c56
          try clear c56b0
          try clear c56b1
          try clear c57
          try clear c57b0
          try clear c57b1
          try clear c58
          try clear c58b0
          try clear c58b1
          try clear c60
          try clear c61
          try clear c62
          try clear q65
          try clear q69
          try clear q71
          try clear q73
          try clear p2
          try clear q65
          try clear q69
          try clear q71
          try clear q73
          obtain ⟨kq,x2_49,rfl,HA,HJ49,HB⟩:=hcut
          cases kq with
          | zero=>exact absurd HA.out (by simp [laws_FnSubUnify.j4])
          | succ kj49=>
           have H:=HA.out
           clear HA
           simp only [laws_FnSubUnify.j4] at H
           obtain rfl:=Option.some.inj H
           go_wp2
           go_ret
           exact ⟨qz7,qz5⟩
        ·rw [if_neg c47] at H
         have c47b0:(t462 == 1)=false:=beq_eq_false_iff_ne.mpr c47
         have c47b1:(t462 != 1)=true:=bne_iff_ne.mpr c47
         have HC76:=Aside0.mk H
         clear H
         go_upto_region 11 with (fail)
         go_cut [2] (fun v2 wc=>∃ (kq:Nat) (x2_75:Bool),v2 = .bool x2_75∧Aside0 (laws_FnSubUnify.j3 kq x2_75=some r)∧Aside0 (kq≤kj26)∧Aside0 (Below w.heap.size w wc))
         case first=>
          have H:=HC76.out
          clear HC76
          by_cases c77:(t461.length:Int)=0
          ·rw [if_pos c77] at H
           have c77b0:((t461.length:Int) == 0)=true:=beq_iff_eq.mpr c77
           have c77b1:((t461.length:Int) != 0)=false:=bne_eq_false_iff_eq.mpr c77
           clear c77
           (first|rw [c77b0]|(simp only [i64_w,i32_w];rw [c77b0])|skip)
           by_cases c78:t462=2
           ·rw [if_pos c78] at H
            have c78b0:(t462 == 2)=true:=beq_iff_eq.mpr c78
            have c78b1:(t462 != 2)=false:=bne_eq_false_iff_eq.mpr c78
            clear c78
            have H':=Aside0.mk H
            clear H
            obtain ⟨Ao79,co79,eo79⟩:=Kd.S_slice HO_6.out
            subst eo79
            go_wp2
            go_meet
            case rel=>exact ⟨_,(true),qz9,H',⟨qz42⟩,⟨qz5⟩⟩
           ·rw [if_neg c78] at H
            have c78b0:(t462 == 2)=false:=beq_eq_false_iff_ne.mpr c78
            have c78b1:(t462 != 2)=true:=bne_iff_ne.mpr c78
            have H':=Aside0.mk H
            clear H
            obtain ⟨Ao80,co80,eo80⟩:=Kd.S_slice HO_6.out
            subst eo80
            go_wp2
            go_meet
            case rel=>exact ⟨_,((t462 == 3)),qz9,H',⟨qz42⟩,⟨qz5⟩⟩
          ·rw [if_neg c77] at H
           have c77b0:((t461.length:Int) == 0)=false:=beq_eq_false_iff_ne.mpr c77
           have c77b1:((t461.length:Int) != 0)=true:=bne_iff_ne.mpr c77
           have c77b2:¬ (t461=[]):=fun h_=>c77 (by rw [h_];rfl)
           (first|rw [c77b0]|(simp only [i64_w,i32_w];rw [c77b0])|skip)
           have H':=Aside0.mk H
           clear H
           obtain ⟨Ao81,co81,eo81⟩:=Kd.S_slice HO_6.out
           subst eo81
           go_wp2
           go_meet
           case rel=>exact ⟨_,(false),qz9,H',⟨qz42⟩,⟨qz5⟩⟩
         case rest=>
          clear HC76
          try clear c1
          try clear c2
          try clear c2b0
          try clear c2b1
          try clear p2
          try clear c3
          try clear c4
          try clear c5
          try clear c6
          try clear q6
          try clear c7
          try clear q7
          try clear c14
          try clear c15
          try clear c15b0
          try clear c15b1
          try clear c24
          try clear c26
          try clear c29
          try clear c31
          try clear c36
          try clear c39
          try clear c41
          try clear c41b0
          try clear c41b1
          try clear c42
          try clear c42b0
          try clear c42b1
          try clear c42b2
          try clear c43
          try clear c44
          try clear c47
          try clear c47b0
          try clear c47b1
          try clear c55
          try clear c56
          try clear c56b0
          try clear c56b1
          try clear c57
          try clear c57b0
          try clear c57b1
          try clear c58
          try clear c58b0
          try clear c58b1
          try clear c60
          try clear c61
          try clear c62
          try clear q65
          try clear q69
          try clear q71
          try clear q73
          try clear c77
          try clear c77b0
          try clear c77b1
          try clear c77b2
          try clear c78
          try clear c78b0
          try clear c78b1
          try clear p2
          try clear q6
          try clear q65
          try clear q69
          try clear q7
          try clear q71
          try clear q73
          obtain ⟨kq,x2_75,rfl,HA,HJ75,HB⟩:=hcut
          cases kq with
          | zero=>exact absurd HA.out (by simp [laws_FnSubUnify.j3])
          | succ kj75=>
           have H:=HA.out
           clear HA
           simp only [laws_FnSubUnify.j3] at H
           obtain rfl:=Option.some.inj H
           go_wp2
           go_ret
           exact ⟨qz7,qz5⟩

end Go.Proofs.YtlaicnoikeieeaaDoor.P
