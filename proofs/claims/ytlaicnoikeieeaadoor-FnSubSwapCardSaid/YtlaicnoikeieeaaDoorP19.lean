/- Contracts of functions of the program: each as a Lean function, and that its call does what that says; printed by cprint.py (this session) over print.py of the kit. Conditions: the hypotheses of each theorem. -/
import Derived.Test.YtlaicnoikeieeaaDoorVZ
import Derived.Test.YtlaicnoikeieeaaDoorP0
import Derived.Test.YtlaicnoikeieeaaDoorP7
import Derived.Test.YtlaicnoikeieeaaDoorP13
import Derived.Test.YtlaicnoikeieeaaDoorP14
import Derived.Test.YtlaicnoikeieeaaDoorP18
namespace Go.Proofs.YtlaicnoikeieeaaDoor.P
open Go.RowKit Go.Proofs.YtlaicnoikeieeaaDoorW.PrintWords Go.Proofs.YtlaicnoikeieeaaDoorW.PrintLast Go.Proofs.YtlaicnoikeieeaaDoorW.PrintMore
attribute [local go_sem] max2_int min2_int max_two min_two max_three min_three max_four min_four   -- for this text's walks alone
set_option linter.unusedVariables false
set_option linter.unusedSimpArgs false

/-! ### laws_FnSubSwap: function 11 -/
mutual
def laws_FnSubSwap.j0:Nat→List (S46)→List (S30)→Int→List (S30)→Int→Bool→Option (Bool)
 | 0,_,_,_,_,_,_=>none
 | k+1,x4,x6,x7,x8,x11,x59=>if x59=true then (some false) else (if x7=1 then ((impl_SubFull.f k x6 x4).bind fun bt485=>((impl_SubFull.f k x8 x4).bind fun bt489=>((impl_TrmCanon.f k bt485.1).bind fun t493=>((impl_TrmCanon.f k bt489.1).bind fun t496=>((laws_caTerm.f k t493 t496).bind fun t499=>(if t499=true then (some (x11 == 1)) else (some false))))))) else (if (x6.length:Int)=0 then (if (x8.length:Int)=0 then (if x7=2 then (laws_FnSubSwap.j1 k true) else (laws_FnSubSwap.j1 k (x7 == 3))) else (laws_FnSubSwap.j1 k false)) else (laws_FnSubSwap.j1 k false)))
def laws_FnSubSwap.j1:Nat→Bool→Option (Bool)
 | 0,_=>none
 | k+1,x2=>some x2
end
def laws_FnSubSwap.f (k:Nat) (l0:List Int):Option (Bool):=if (l0.length:Int) > 1048576 then (some true) else ((spec_DrawSubUnify.f k l0).bind fun bt462=>((impl_SubUnify.f k bt462.1 bt462.2.1 bt462.2.2).bind fun bt471=>((impl_SubUnify.f k bt462.1 bt462.2.2 bt462.2.1).bind fun bt475=>(if bt471.2=bt475.2 then (if bt471.2=4 then ((laws_caOk.f).bind fun t479=>(some t479)) else ((impl_SubUnify.f k bt462.1 bt462.2.1 bt462.2.1).bind fun bt480=>(if bt480.2=1 then ((laws_caBinds.f k bt480.1 bt462.1).bind fun t484=>(laws_FnSubSwap.j0 k bt462.2.1 bt471.1 bt471.2 bt475.1 bt480.2 (!t484))) else (laws_FnSubSwap.j0 k bt462.2.1 bt471.1 bt471.2 bt475.1 bt480.2 false)))) else (some false)))))
set_option maxHeartbeats 8000000 in
set_option maxRecDepth 100000 in
theorem laws_FnSubSwap.calls (k:Nat) (A0:Option Addr) (c0:Nat) (l0:List Int) (r:Bool) (w:World) (hr0:Kd.C (Kd.int .u8) w A0 l0.length l0) (hc0:l0.length≤c0) (h:laws_FnSubSwap.f k l0=some r) :
  Calls Tryd.prog 11 #[.slice A0 l0.length c0] w fun e w'=>e = .returned (.bool r)∧Below w.heap.size w w':=by
 have HR0:=Aside0.mk hr0
 have HC0:=Aside0.mk hc0
 clear hr0 hc0
 have HB:=Aside0.mk (Below.refl w.heap.size w)
 have H:(if (l0.length:Int) > 1048576 then (some true) else ((spec_DrawSubUnify.f k l0).bind fun bt462=>((impl_SubUnify.f k bt462.1 bt462.2.1 bt462.2.2).bind fun bt471=>((impl_SubUnify.f k bt462.1 bt462.2.2 bt462.2.1).bind fun bt475=>(if bt471.2=bt475.2 then (if bt471.2=4 then ((laws_caOk.f).bind fun t479=>(some t479)) else ((impl_SubUnify.f k bt462.1 bt462.2.1 bt462.2.1).bind fun bt480=>(if bt480.2=1 then ((laws_caBinds.f k bt480.1 bt462.1).bind fun t484=>(laws_FnSubSwap.j0 k bt462.2.1 bt471.1 bt471.2 bt475.1 bt480.2 (!t484))) else (laws_FnSubSwap.j0 k bt462.2.1 bt471.1 bt471.2 bt475.1 bt480.2 false)))) else (some false))))))=some r:=h
 clear h
 by_cases c2:(l0.length:Int) > 1048576
 ·rw [if_pos c2] at H
  have c2b0:decide (1048576<(l0.length:Int))=true:=decide_eq_true c2
  have c2b1:decide (1048576<l0.length)=true:=decide_eq_true (by omega)
  clear c2
  obtain rfl:=Option.some.inj H
  go_enter Tryd.func11,Tryd.ntmps11
  go_wp2
  go_ret
  exact ⟨qz7,qz5⟩
 ·rw [if_neg c2] at H
  have c2b0:decide (1048576<(l0.length:Int))=false:=decide_eq_false c2
  have c2b1:decide (1048576<l0.length)=false:=decide_eq_false (by omega)
  clear c2
  replace H:=Option.bind_eq_some_iff.mp H
  obtain ⟨⟨t462,t463,t464⟩,A30,H⟩:=H
  try dsimp only at H
  have A3:=Aside0.mk A30
  clear A30
  replace H:=Option.bind_eq_some_iff.mp H
  obtain ⟨⟨t471,t472⟩,A40,H⟩:=H
  try dsimp only at H
  have A4:=Aside0.mk A40
  clear A40
  replace H:=Option.bind_eq_some_iff.mp H
  obtain ⟨⟨t475,t476⟩,A50,H⟩:=H
  try dsimp only at H
  have A5:=Aside0.mk A50
  clear A50
  by_cases c6:t472=t476
  ·rw [if_pos c6] at H
   have c6b0:(t472 == t476)=true:=beq_iff_eq.mpr c6
   have c6b1:(t472 != t476)=false:=bne_eq_false_iff_eq.mpr c6
   clear c6
   by_cases c7:t472=4
   ·rw [if_pos c7] at H
    have c7b0:(t472 == 4)=true:=beq_iff_eq.mpr c7
    have c7b1:(t472 != 4)=false:=bne_eq_false_iff_eq.mpr c7
    clear c7
    replace H:=Option.bind_eq_some_iff.mp H
    obtain ⟨t479,A80,H⟩:=H
    try dsimp only at H
    have A8:=Aside0.mk A80
    clear A80
    obtain rfl:=Option.some.inj H
    go_enter Tryd.func11,Tryd.ntmps11
    go_wp2_with (first|(go_at_call 43;(with_reducible refine (spec_DrawSubUnify.calls k _ _ l0 t462 t463 t464 _ ?side1 ?side2 A3.out).mono ?_);(case side1=>exact qz27);(case side2=>exact HC0.out);rintro e w9 ⟨v465,v467,v469,rfl,ho0,ho1,ho2,hb⟩;have n0_:=Aside0.mk (Kd.S_lower ho0 (below_size qz4));have n1_:=Aside0.mk (Kd.R_lower ho1 (below_size qz4));have n2_:=Aside0.mk (Kd.R_lower ho2 (below_size qz4));have n3_:=Aside0.mk (below_step qz4 hb);clear HB;have HO466:=n0_;have HO468:=n1_;have HO470:=n2_;have HB:=n3_;clear n0_ n1_ n2_ n3_;(try clear hb);(try clear hb2);(try clear hk);(try clear hi);(try clear ho0);(try clear ho1);(try clear ho2);obtain ⟨Ao10,co10,eo10⟩:=Kd.S_slice HO466.out;subst eo10;obtain ⟨Ao11,co11,eo11⟩:=Kd.R_slice HO468.out;subst eo11;obtain ⟨Ao12,co12,eo12⟩:=Kd.R_slice HO470.out;subst eo12)|(go_at_call 31;(with_reducible refine (impl_SubUnify.calls k _ _ t462 _ _ t463 _ _ t464 t471 t472 _ ?side1 ?side2 ?side3 ?side4 ?side5 ?side6 A4.out).mono ?_);(case side1=>exact qz23);(case side2=>exact (Kd.S_reads' HO466.out).2.1);(case side3=>exact qz24);(case side4=>exact (Kd.R_reads' HO468.out).2.1);(case side5=>exact qz33);(case side6=>exact (Kd.R_reads' HO470.out).2.1);rintro e w13 ⟨v473,rfl,ho0,hb⟩;have n0_:=Aside0.mk (Kd.S_elder' qz19 (Kd.S_base ho0) hb);have n1_:=Aside0.mk (Kd.R_below qz21 hb);have n2_:=Aside0.mk (Kd.R_below qz20 hb);have n3_:=Aside0.mk (Kd.S_lower (Kd.S_new' (Kd.S_new' (Kd.S_new' ho0 (Kd.S_lt qz19)) (Kd.R_lt qz21)) (Kd.R_lt qz20)) (below_size qz4));have n4_:=Aside0.mk (below_step qz4 hb);clear HO466 HO468 HO470 HB;have HO466:=n0_;have HO468:=n1_;have HO470:=n2_;have HO474:=n3_;have HB:=n4_;clear n0_ n1_ n2_ n3_ n4_;(try clear hb);(try clear hb2);(try clear hk);(try clear hi);(try clear ho0))|(go_at_call 31;(with_reducible refine (impl_SubUnify.calls k _ _ t462 _ _ t464 _ _ t463 t475 t476 _ ?side1 ?side2 ?side3 ?side4 ?side5 ?side6 A5.out).mono ?_);(case side1=>exact qz23);(case side2=>exact (Kd.S_reads' HO466.out).2.1);(case side3=>exact qz33);(case side4=>exact (Kd.R_reads' HO470.out).2.1);(case side5=>exact qz24);(case side6=>exact (Kd.R_reads' HO468.out).2.1);rintro e w14 ⟨v477,rfl,ho0,hb⟩;have n0_:=Aside0.mk (Kd.S_elder' qz19 (Kd.S_base ho0) hb);have n1_:=Aside0.mk (Kd.R_below qz21 hb);have n2_:=Aside0.mk (Kd.R_below qz20 hb);have n3_:=Aside0.mk (Kd.S_elder' qz34 (Kd.S_base ho0) hb);have n4_:=Aside0.mk (Kd.S_lower (Kd.S_new' (Kd.S_new' (Kd.S_new' (Kd.S_new' ho0 (Kd.S_lt qz19)) (Kd.R_lt qz21)) (Kd.R_lt qz20)) (Kd.S_lt qz34)) (below_size qz4));have n5_:=Aside0.mk (below_step qz4 hb);clear HO466 HO468 HO470 HO474 HB;have HO466:=n0_;have HO468:=n1_;have HO470:=n2_;have HO474:=n3_;have HO478:=n4_;have HB:=n5_;clear n0_ n1_ n2_ n3_ n4_ n5_;(try clear hb);(try clear hb2);(try clear hk);(try clear hi);(try clear ho0))|(go_at_call 22;(with_reducible refine (laws_caOk.calls  t479 _ A8.out).mono ?_);rintro e w15 ⟨rfl,hb⟩;have n0_:=Aside0.mk (Kd.S_below qz19 hb);have n1_:=Aside0.mk (Kd.R_below qz21 hb);have n2_:=Aside0.mk (Kd.R_below qz20 hb);have n3_:=Aside0.mk (Kd.S_below qz34 hb);have n4_:=Aside0.mk (Kd.S_below qz66 hb);have n5_:=Aside0.mk (below_step qz4 hb);clear HO466 HO468 HO470 HO474 HO478 HB;have HO466:=n0_;have HO468:=n1_;have HO470:=n2_;have HO474:=n3_;have HO478:=n4_;have HB:=n5_;clear n0_ n1_ n2_ n3_ n4_ n5_;(try clear hb);(try clear hb2);(try clear hk);(try clear hi)))
    go_ret
    exact ⟨qz7,qz5⟩
   ·rw [if_neg c7] at H
    have c7b0:(t472 == 4)=false:=beq_eq_false_iff_ne.mpr c7
    have c7b1:(t472 != 4)=true:=bne_iff_ne.mpr c7
    replace H:=Option.bind_eq_some_iff.mp H
    obtain ⟨⟨t480,t481⟩,A160,H⟩:=H
    try dsimp only at H
    have A16:=Aside0.mk A160
    clear A160
    have HC17:=Aside0.mk H
    clear H
    go_enter Tryd.func11,Tryd.ntmps11
    go_upto_region 11 with (first|(go_at_call 43;(with_reducible refine (spec_DrawSubUnify.calls k _ _ l0 t462 t463 t464 _ ?side1 ?side2 A3.out).mono ?_);(case side1=>exact qz27);(case side2=>exact HC0.out);rintro e w18 ⟨v465,v467,v469,rfl,ho0,ho1,ho2,hb⟩;have n0_:=Aside0.mk (Kd.S_lower ho0 (below_size qz4));have n1_:=Aside0.mk (Kd.R_lower ho1 (below_size qz4));have n2_:=Aside0.mk (Kd.R_lower ho2 (below_size qz4));have n3_:=Aside0.mk (below_step qz4 hb);clear HB;have HO466:=n0_;have HO468:=n1_;have HO470:=n2_;have HB:=n3_;clear n0_ n1_ n2_ n3_;(try clear hb);(try clear hb2);(try clear hk);(try clear hi);(try clear ho0);(try clear ho1);(try clear ho2);obtain ⟨Ao19,co19,eo19⟩:=Kd.S_slice HO466.out;subst eo19;obtain ⟨Ao20,co20,eo20⟩:=Kd.R_slice HO468.out;subst eo20;obtain ⟨Ao21,co21,eo21⟩:=Kd.R_slice HO470.out;subst eo21)|(go_at_call 31;(with_reducible refine (impl_SubUnify.calls k _ _ t462 _ _ t463 _ _ t464 t471 t472 _ ?side1 ?side2 ?side3 ?side4 ?side5 ?side6 A4.out).mono ?_);(case side1=>exact qz23);(case side2=>exact (Kd.S_reads' HO466.out).2.1);(case side3=>exact qz24);(case side4=>exact (Kd.R_reads' HO468.out).2.1);(case side5=>exact qz33);(case side6=>exact (Kd.R_reads' HO470.out).2.1);rintro e w22 ⟨v473,rfl,ho0,hb⟩;have n0_:=Aside0.mk (Kd.S_elder' qz19 (Kd.S_base ho0) hb);have n1_:=Aside0.mk (Kd.R_below qz21 hb);have n2_:=Aside0.mk (Kd.R_below qz20 hb);have n3_:=Aside0.mk (Kd.S_lower (Kd.S_new' (Kd.S_new' (Kd.S_new' ho0 (Kd.S_lt qz19)) (Kd.R_lt qz21)) (Kd.R_lt qz20)) (below_size qz4));have n4_:=Aside0.mk (below_step qz4 hb);clear HO466 HO468 HO470 HB;have HO466:=n0_;have HO468:=n1_;have HO470:=n2_;have HO474:=n3_;have HB:=n4_;clear n0_ n1_ n2_ n3_ n4_;(try clear hb);(try clear hb2);(try clear hk);(try clear hi);(try clear ho0))|(go_at_call 31;(with_reducible refine (impl_SubUnify.calls k _ _ t462 _ _ t464 _ _ t463 t475 t476 _ ?side1 ?side2 ?side3 ?side4 ?side5 ?side6 A5.out).mono ?_);(case side1=>exact qz23);(case side2=>exact (Kd.S_reads' HO466.out).2.1);(case side3=>exact qz33);(case side4=>exact (Kd.R_reads' HO470.out).2.1);(case side5=>exact qz24);(case side6=>exact (Kd.R_reads' HO468.out).2.1);rintro e w23 ⟨v477,rfl,ho0,hb⟩;have n0_:=Aside0.mk (Kd.S_elder' qz19 (Kd.S_base ho0) hb);have n1_:=Aside0.mk (Kd.R_below qz21 hb);have n2_:=Aside0.mk (Kd.R_below qz20 hb);have n3_:=Aside0.mk (Kd.S_elder' qz34 (Kd.S_base ho0) hb);have n4_:=Aside0.mk (Kd.S_lower (Kd.S_new' (Kd.S_new' (Kd.S_new' (Kd.S_new' ho0 (Kd.S_lt qz19)) (Kd.R_lt qz21)) (Kd.R_lt qz20)) (Kd.S_lt qz34)) (below_size qz4));have n5_:=Aside0.mk (below_step qz4 hb);clear HO466 HO468 HO470 HO474 HB;have HO466:=n0_;have HO468:=n1_;have HO470:=n2_;have HO474:=n3_;have HO478:=n4_;have HB:=n5_;clear n0_ n1_ n2_ n3_ n4_ n5_;(try clear hb);(try clear hb2);(try clear hk);(try clear hi);(try clear ho0))|(go_at_call 31;(with_reducible refine (impl_SubUnify.calls k _ _ t462 _ _ t463 _ _ t463 t480 t481 _ ?side1 ?side2 ?side3 ?side4 ?side5 ?side6 A16.out).mono ?_);(case side1=>exact qz23);(case side2=>exact (Kd.S_reads' HO466.out).2.1);(case side3=>exact qz24);(case side4=>exact (Kd.R_reads' HO468.out).2.1);(case side5=>exact qz24);(case side6=>exact (Kd.R_reads' HO468.out).2.1);rintro e w24 ⟨v482,rfl,ho0,hb⟩;have n0_:=Aside0.mk (Kd.S_elder' qz19 (Kd.S_base ho0) hb);have n1_:=Aside0.mk (Kd.R_below qz21 hb);have n2_:=Aside0.mk (Kd.R_below qz20 hb);have n3_:=Aside0.mk (Kd.S_elder' qz34 (Kd.S_base ho0) hb);have n4_:=Aside0.mk (Kd.S_elder' qz66 (Kd.S_base ho0) hb);have n5_:=Aside0.mk (Kd.S_lower (Kd.S_new' (Kd.S_new' (Kd.S_new' (Kd.S_new' (Kd.S_new' ho0 (Kd.S_lt qz19)) (Kd.R_lt qz21)) (Kd.R_lt qz20)) (Kd.S_lt qz34)) (Kd.S_lt qz66)) (below_size qz4));have n6_:=Aside0.mk (below_step qz4 hb);clear HO466 HO468 HO470 HO474 HO478 HB;have HO466:=n0_;have HO468:=n1_;have HO470:=n2_;have HO474:=n3_;have HO478:=n4_;have HO483:=n5_;have HB:=n6_;clear n0_ n1_ n2_ n3_ n4_ n5_ n6_;(try clear hb);(try clear hb2);(try clear hk);(try clear hi);(try clear ho0)))
    (try simp only [Act.put,List.setIfInBounds_toArray,List.set_cons_zero,List.set_cons_succ])
    go_cut [59] (fun v59 wc=>∃ (kq:Nat) (x59_16:Bool),v59 = .bool x59_16∧Aside0 (laws_FnSubSwap.j0 kq t463 t471 t472 t475 t481 x59_16=some r)∧Aside0 (kq≤k)∧Aside0 (Kd.R k46 46 wc w.heap.size (fun _=>True) (.slice Ao20 t463.length co20) t463)∧Aside0 (Kd.S k30 30 wc w.heap.size (fun k_=>some k_≠((.slice Ao20 t463.length co20):Value).ownBlock∧some k_≠(v477:Value).ownBlock) v473 t471)∧Aside0 (Kd.S k30 30 wc w.heap.size (fun k_=>some k_≠((.slice Ao20 t463.length co20):Value).ownBlock∧some k_≠(v473:Value).ownBlock) v477 t475)∧Aside0 (Below w.heap.size w wc))
    case first=>
     have H:=HC17.out
     clear HC17
     by_cases c25:t481=1
     ·rw [if_pos c25] at H
      have c25b0:(t481 == 1)=true:=beq_iff_eq.mpr c25
      have c25b1:(t481 != 1)=false:=bne_eq_false_iff_eq.mpr c25
      clear c25
      (first|rw [c25b0]|(simp only [i64_w,i32_w];rw [c25b0])|skip)
      replace H:=Option.bind_eq_some_iff.mp H
      obtain ⟨t484,A260,H⟩:=H
      try dsimp only at H
      have A26:=Aside0.mk A260
      clear A260
      have H':=Aside0.mk H
      clear H
      obtain ⟨Ao27,co27,eo27⟩:=Kd.S_slice HO483.out
      subst eo27
      go_wp2_with (first|(go_at_call 44;(with_reducible refine (laws_caBinds.calls k _ _ t480 _ _ t462 t484 _ ?side1 ?side2 ?side3 ?side4 A26.out).mono ?_);(case side1=>repeat (first|exact (Kd.S_reads' HO483.out).2.2|(with_reducible refine Kd.C_alloc ?_ _)|(with_reducible refine Kd.C_drewN ?_ _)|(with_reducible refine Kd.C_drew ?_)));(case side2=>exact (Kd.S_reads' HO483.out).2.1);(case side3=>exact qz23);(case side4=>exact (Kd.S_reads' HO466.out).2.1);rintro e w' ⟨rfl,⟨nd,rfl⟩⟩))
      go_meet
      case rel=>exact ⟨_,(!t484),qz8,H',⟨qz64⟩,⟨qz88⟩,⟨qz83⟩,⟨qz82⟩,⟨qz5⟩⟩
     ·rw [if_neg c25] at H
      have c25b0:(t481 == 1)=false:=beq_eq_false_iff_ne.mpr c25
      have c25b1:(t481 != 1)=true:=bne_iff_ne.mpr c25
      (first|rw [c25b0]|(simp only [i64_w,i32_w];rw [c25b0])|skip)
      have H':=Aside0.mk H
      clear H
      go_wp2
      go_meet
      case rel=>exact ⟨_,(false),qz8,H',⟨qz64⟩,⟨qz88⟩,⟨qz83⟩,⟨qz82⟩,⟨qz5⟩⟩
    case rest=>
     clear HC17
     try clear c1
     try clear c2
     try clear c2b0
     try clear c2b1
     try clear p2
     try clear c3
     try clear c4
     try clear c6
     try clear c6b0
     try clear c6b1
     try clear c7
     try clear c7b0
     try clear c7b1
     try clear c11
     try clear c22
     try clear c25
     try clear c25b0
     try clear c25b1
     obtain ⟨kq,x59_16,rfl,HA,HJ16,HO_4,HO_6,HO_8,HB⟩:=hcut
     cases kq with
     | zero=>exact absurd HA.out (by simp [laws_FnSubSwap.j0])
     | succ kj16=>
      have H:=HA.out
      clear HA
      simp only [laws_FnSubSwap.j0] at H
      by_cases c28:x59_16=true
      ·subst c28
       have H1:(some false)=some r:=qz52
       clear H
       have H:=H1
       clear H1
       obtain rfl:=Option.some.inj H
       go_wp2
       go_ret
       exact ⟨qz7,qz5⟩
      ·replace c28:=Bool.eq_false_iff.mpr c28
       subst c28
       have H1:(if t472=1 then ((impl_SubFull.f kj16 t471 t463).bind fun bt485=>((impl_SubFull.f kj16 t475 t463).bind fun bt489=>((impl_TrmCanon.f kj16 bt485.1).bind fun t493=>((impl_TrmCanon.f kj16 bt489.1).bind fun t496=>((laws_caTerm.f kj16 t493 t496).bind fun t499=>(if t499=true then (some (t481 == 1)) else (some false))))))) else (if (t471.length:Int)=0 then (if (t475.length:Int)=0 then (if t472=2 then (laws_FnSubSwap.j1 kj16 true) else (laws_FnSubSwap.j1 kj16 (t472 == 3))) else (laws_FnSubSwap.j1 kj16 false)) else (laws_FnSubSwap.j1 kj16 false)))=some r:=qz28
       clear H
       have H:=H1
       clear H1
       by_cases c29:t472=1
       ·rw [if_pos c29] at H
        have c29b0:(t472 == 1)=true:=beq_iff_eq.mpr c29
        have c29b1:(t472 != 1)=false:=bne_eq_false_iff_eq.mpr c29
        clear c29
        replace H:=Option.bind_eq_some_iff.mp H
        obtain ⟨⟨t485,t486⟩,A300,H⟩:=H
        try dsimp only at H
        have A30:=Aside0.mk A300
        clear A300
        replace H:=Option.bind_eq_some_iff.mp H
        obtain ⟨⟨t489,t490⟩,A310,H⟩:=H
        try dsimp only at H
        have A31:=Aside0.mk A310
        clear A310
        replace H:=Option.bind_eq_some_iff.mp H
        obtain ⟨t493,A320,H⟩:=H
        try dsimp only at H
        have A32:=Aside0.mk A320
        clear A320
        replace H:=Option.bind_eq_some_iff.mp H
        obtain ⟨t496,A330,H⟩:=H
        try dsimp only at H
        have A33:=Aside0.mk A330
        clear A330
        replace H:=Option.bind_eq_some_iff.mp H
        obtain ⟨t499,A340,H⟩:=H
        try dsimp only at H
        have A34:=Aside0.mk A340
        clear A340
        by_cases c35:t499=true
        ·subst c35
         have H1:(some (t481 == 1))=some r:=qz52
         clear H
         have H:=H1
         clear H1
         obtain rfl:=Option.some.inj H
         obtain ⟨Ao36,co36,eo36⟩:=Kd.S_slice HO_6.out
         subst eo36
         go_wp2_with (first|(go_at_call 36;(with_reducible refine (impl_SubFull.calls kj16 _ _ t471 _ _ t463 t485 t486 _ ?side1 ?side2 ?side3 ?side4 A30.out).mono ?_);(case side1=>exact qz78);(case side2=>exact (Kd.S_reads' HO_6.out).2.1);(case side3=>exact qz49);(case side4=>exact (Kd.R_reads' HO_4.out).2.1);rintro e w37 ⟨v487,rfl,ho0,hb⟩;have n0_:=Aside0.mk (Kd.R_elder' qz17 (Kd.R_base ho0) hb);have n1_:=Aside0.mk (Kd.S_elder' qz43 (Kd.R_base ho0) hb);have n2_:=Aside0.mk (Kd.S_elder' qz42 (Kd.R_base ho0) hb);have n3_:=Aside0.mk (Kd.R_lower (Kd.R_new' ho0 (Kd.R_lt qz17)) (below_size qz4));have n4_:=Aside0.mk (below_step qz4 hb);clear HO_4 HO_6 HO_8 HB;have HO_4:=n0_;have HO_6:=n1_;have HO_8:=n2_;have HO488:=n3_;have HB:=n4_;clear n0_ n1_ n2_ n3_ n4_;(try clear hb);(try clear hb2);(try clear hk);(try clear hi);(try clear ho0);obtain ⟨Ao38,co38,eo38⟩:=Kd.S_slice HO_8.out;subst eo38)|(go_at_call 36;(with_reducible refine (impl_SubFull.calls kj16 _ _ t475 _ _ t463 t489 t490 _ ?side1 ?side2 ?side3 ?side4 A31.out).mono ?_);(case side1=>exact qz77);(case side2=>exact (Kd.S_reads' HO_8.out).2.1);(case side3=>exact qz49);(case side4=>exact (Kd.R_reads' HO_4.out).2.1);rintro e w39 ⟨v491,rfl,ho0,hb⟩;have n0_:=Aside0.mk (Kd.R_elder' qz17 (Kd.R_base ho0) hb);have n1_:=Aside0.mk (Kd.S_elder' qz43 (Kd.R_base ho0) hb);have n2_:=Aside0.mk (Kd.S_elder' qz42 (Kd.R_base ho0) hb);have n3_:=Aside0.mk (Kd.R_elder' qz26 (Kd.R_base ho0) hb);have n4_:=Aside0.mk (Kd.R_lower (Kd.R_new' (Kd.R_new' ho0 (Kd.R_lt qz17)) (Kd.R_lt qz26)) (below_size qz4));have n5_:=Aside0.mk (below_step qz4 hb);clear HO_4 HO_6 HO_8 HO488 HB;have HO_4:=n0_;have HO_6:=n1_;have HO_8:=n2_;have HO488:=n3_;have HO492:=n4_;have HB:=n5_;clear n0_ n1_ n2_ n3_ n4_ n5_;(try clear hb);(try clear hb2);(try clear hk);(try clear hi);(try clear ho0);obtain ⟨Ao40,co40,eo40⟩:=Kd.R_slice HO488.out;subst eo40)|(go_at_call 45;(with_reducible refine (impl_TrmCanon.calls kj16 _ _ t485 t493 _ ?side1 ?side2 A32.out).mono ?_);(case side1=>exact qz76);(case side2=>exact (Kd.R_reads' HO488.out).2.1);rintro e w41 ⟨v494,rfl,ho0,hb⟩;have n0_:=Aside0.mk (Kd.R_elder' qz17 (Kd.R_base ho0) hb);have n1_:=Aside0.mk (Kd.S_elder' qz43 (Kd.R_base ho0) hb);have n2_:=Aside0.mk (Kd.S_elder' qz42 (Kd.R_base ho0) hb);have n3_:=Aside0.mk (Kd.R_elder' qz26 (Kd.R_base ho0) hb);have n4_:=Aside0.mk (Kd.R_elder' qz41 (Kd.R_base ho0) hb);have n5_:=Aside0.mk (Kd.R_lower (Kd.R_new' (Kd.R_new' (Kd.R_new' ho0 (Kd.R_lt qz17)) (Kd.R_lt qz26)) (Kd.R_lt qz41)) (below_size qz4));have n6_:=Aside0.mk (below_step qz4 hb);clear HO_4 HO_6 HO_8 HO488 HO492 HB;have HO_4:=n0_;have HO_6:=n1_;have HO_8:=n2_;have HO488:=n3_;have HO492:=n4_;have HO495:=n5_;have HB:=n6_;clear n0_ n1_ n2_ n3_ n4_ n5_ n6_;(try clear hb);(try clear hb2);(try clear hk);(try clear hi);(try clear ho0);obtain ⟨Ao42,co42,eo42⟩:=Kd.R_slice HO492.out;subst eo42)|(go_at_call 45;(with_reducible refine (impl_TrmCanon.calls kj16 _ _ t489 t496 _ ?side1 ?side2 A33.out).mono ?_);(case side1=>exact qz75);(case side2=>exact (Kd.R_reads' HO492.out).2.1);rintro e w43 ⟨v497,rfl,ho0,hb⟩;have n0_:=Aside0.mk (Kd.R_elder' qz17 (Kd.R_base ho0) hb);have n1_:=Aside0.mk (Kd.S_elder' qz43 (Kd.R_base ho0) hb);have n2_:=Aside0.mk (Kd.S_elder' qz42 (Kd.R_base ho0) hb);have n3_:=Aside0.mk (Kd.R_elder' qz26 (Kd.R_base ho0) hb);have n4_:=Aside0.mk (Kd.R_elder' qz41 (Kd.R_base ho0) hb);have n5_:=Aside0.mk (Kd.R_elder' qz60 (Kd.R_base ho0) hb);have n6_:=Aside0.mk (Kd.R_lower (Kd.R_new' (Kd.R_new' (Kd.R_new' (Kd.R_new' ho0 (Kd.R_lt qz17)) (Kd.R_lt qz26)) (Kd.R_lt qz41)) (Kd.R_lt qz60)) (below_size qz4));have n7_:=Aside0.mk (below_step qz4 hb);clear HO_4 HO_6 HO_8 HO488 HO492 HO495 HB;have HO_4:=n0_;have HO_6:=n1_;have HO_8:=n2_;have HO488:=n3_;have HO492:=n4_;have HO495:=n5_;have HO498:=n6_;have HB:=n7_;clear n0_ n1_ n2_ n3_ n4_ n5_ n6_ n7_;(try clear hb);(try clear hb2);(try clear hk);(try clear hi);(try clear ho0);obtain ⟨Ao44,co44,eo44⟩:=Kd.R_slice HO495.out;subst eo44;obtain ⟨Ao45,co45,eo45⟩:=Kd.R_slice HO498.out;subst eo45)|(go_at_call 20;(with_reducible refine (laws_caTerm.calls kj16 _ _ t493 _ _ t496 true _ ?side1 ?side2 ?side3 ?side4 A34.out).mono ?_);(case side1=>exact qz74);(case side2=>exact (Kd.R_reads' HO495.out).2.1);(case side3=>exact qz73);(case side4=>exact (Kd.R_reads' HO498.out).2.1);rintro e w' ⟨rfl,⟨nd,rfl⟩⟩))
         go_ret
         exact ⟨qz7,qz5⟩
        ·replace c35:=Bool.eq_false_iff.mpr c35
         subst c35
         have H1:(some false)=some r:=qz28
         clear H
         have H:=H1
         clear H1
         obtain rfl:=Option.some.inj H
         obtain ⟨Ao46,co46,eo46⟩:=Kd.S_slice HO_6.out
         subst eo46
         go_wp2_with (first|(go_at_call 36;(with_reducible refine (impl_SubFull.calls kj16 _ _ t471 _ _ t463 t485 t486 _ ?side1 ?side2 ?side3 ?side4 A30.out).mono ?_);(case side1=>exact qz78);(case side2=>exact (Kd.S_reads' HO_6.out).2.1);(case side3=>exact qz49);(case side4=>exact (Kd.R_reads' HO_4.out).2.1);rintro e w47 ⟨v487,rfl,ho0,hb⟩;have n0_:=Aside0.mk (Kd.R_elder' qz17 (Kd.R_base ho0) hb);have n1_:=Aside0.mk (Kd.S_elder' qz43 (Kd.R_base ho0) hb);have n2_:=Aside0.mk (Kd.S_elder' qz42 (Kd.R_base ho0) hb);have n3_:=Aside0.mk (Kd.R_lower (Kd.R_new' ho0 (Kd.R_lt qz17)) (below_size qz4));have n4_:=Aside0.mk (below_step qz4 hb);clear HO_4 HO_6 HO_8 HB;have HO_4:=n0_;have HO_6:=n1_;have HO_8:=n2_;have HO488:=n3_;have HB:=n4_;clear n0_ n1_ n2_ n3_ n4_;(try clear hb);(try clear hb2);(try clear hk);(try clear hi);(try clear ho0);obtain ⟨Ao48,co48,eo48⟩:=Kd.S_slice HO_8.out;subst eo48)|(go_at_call 36;(with_reducible refine (impl_SubFull.calls kj16 _ _ t475 _ _ t463 t489 t490 _ ?side1 ?side2 ?side3 ?side4 A31.out).mono ?_);(case side1=>exact qz77);(case side2=>exact (Kd.S_reads' HO_8.out).2.1);(case side3=>exact qz49);(case side4=>exact (Kd.R_reads' HO_4.out).2.1);rintro e w49 ⟨v491,rfl,ho0,hb⟩;have n0_:=Aside0.mk (Kd.R_elder' qz17 (Kd.R_base ho0) hb);have n1_:=Aside0.mk (Kd.S_elder' qz43 (Kd.R_base ho0) hb);have n2_:=Aside0.mk (Kd.S_elder' qz42 (Kd.R_base ho0) hb);have n3_:=Aside0.mk (Kd.R_elder' qz26 (Kd.R_base ho0) hb);have n4_:=Aside0.mk (Kd.R_lower (Kd.R_new' (Kd.R_new' ho0 (Kd.R_lt qz17)) (Kd.R_lt qz26)) (below_size qz4));have n5_:=Aside0.mk (below_step qz4 hb);clear HO_4 HO_6 HO_8 HO488 HB;have HO_4:=n0_;have HO_6:=n1_;have HO_8:=n2_;have HO488:=n3_;have HO492:=n4_;have HB:=n5_;clear n0_ n1_ n2_ n3_ n4_ n5_;(try clear hb);(try clear hb2);(try clear hk);(try clear hi);(try clear ho0);obtain ⟨Ao50,co50,eo50⟩:=Kd.R_slice HO488.out;subst eo50)|(go_at_call 45;(with_reducible refine (impl_TrmCanon.calls kj16 _ _ t485 t493 _ ?side1 ?side2 A32.out).mono ?_);(case side1=>exact qz76);(case side2=>exact (Kd.R_reads' HO488.out).2.1);rintro e w51 ⟨v494,rfl,ho0,hb⟩;have n0_:=Aside0.mk (Kd.R_elder' qz17 (Kd.R_base ho0) hb);have n1_:=Aside0.mk (Kd.S_elder' qz43 (Kd.R_base ho0) hb);have n2_:=Aside0.mk (Kd.S_elder' qz42 (Kd.R_base ho0) hb);have n3_:=Aside0.mk (Kd.R_elder' qz26 (Kd.R_base ho0) hb);have n4_:=Aside0.mk (Kd.R_elder' qz41 (Kd.R_base ho0) hb);have n5_:=Aside0.mk (Kd.R_lower (Kd.R_new' (Kd.R_new' (Kd.R_new' ho0 (Kd.R_lt qz17)) (Kd.R_lt qz26)) (Kd.R_lt qz41)) (below_size qz4));have n6_:=Aside0.mk (below_step qz4 hb);clear HO_4 HO_6 HO_8 HO488 HO492 HB;have HO_4:=n0_;have HO_6:=n1_;have HO_8:=n2_;have HO488:=n3_;have HO492:=n4_;have HO495:=n5_;have HB:=n6_;clear n0_ n1_ n2_ n3_ n4_ n5_ n6_;(try clear hb);(try clear hb2);(try clear hk);(try clear hi);(try clear ho0);obtain ⟨Ao52,co52,eo52⟩:=Kd.R_slice HO492.out;subst eo52)|(go_at_call 45;(with_reducible refine (impl_TrmCanon.calls kj16 _ _ t489 t496 _ ?side1 ?side2 A33.out).mono ?_);(case side1=>exact qz75);(case side2=>exact (Kd.R_reads' HO492.out).2.1);rintro e w53 ⟨v497,rfl,ho0,hb⟩;have n0_:=Aside0.mk (Kd.R_elder' qz17 (Kd.R_base ho0) hb);have n1_:=Aside0.mk (Kd.S_elder' qz43 (Kd.R_base ho0) hb);have n2_:=Aside0.mk (Kd.S_elder' qz42 (Kd.R_base ho0) hb);have n3_:=Aside0.mk (Kd.R_elder' qz26 (Kd.R_base ho0) hb);have n4_:=Aside0.mk (Kd.R_elder' qz41 (Kd.R_base ho0) hb);have n5_:=Aside0.mk (Kd.R_elder' qz60 (Kd.R_base ho0) hb);have n6_:=Aside0.mk (Kd.R_lower (Kd.R_new' (Kd.R_new' (Kd.R_new' (Kd.R_new' ho0 (Kd.R_lt qz17)) (Kd.R_lt qz26)) (Kd.R_lt qz41)) (Kd.R_lt qz60)) (below_size qz4));have n7_:=Aside0.mk (below_step qz4 hb);clear HO_4 HO_6 HO_8 HO488 HO492 HO495 HB;have HO_4:=n0_;have HO_6:=n1_;have HO_8:=n2_;have HO488:=n3_;have HO492:=n4_;have HO495:=n5_;have HO498:=n6_;have HB:=n7_;clear n0_ n1_ n2_ n3_ n4_ n5_ n6_ n7_;(try clear hb);(try clear hb2);(try clear hk);(try clear hi);(try clear ho0);obtain ⟨Ao54,co54,eo54⟩:=Kd.R_slice HO495.out;subst eo54;obtain ⟨Ao55,co55,eo55⟩:=Kd.R_slice HO498.out;subst eo55)|(go_at_call 20;(with_reducible refine (laws_caTerm.calls kj16 _ _ t493 _ _ t496 false _ ?side1 ?side2 ?side3 ?side4 A34.out).mono ?_);(case side1=>exact qz74);(case side2=>exact (Kd.R_reads' HO495.out).2.1);(case side3=>exact qz73);(case side4=>exact (Kd.R_reads' HO498.out).2.1);rintro e w' ⟨rfl,⟨nd,rfl⟩⟩))
         go_ret
         exact ⟨qz7,qz5⟩
       ·rw [if_neg c29] at H
        have c29b0:(t472 == 1)=false:=beq_eq_false_iff_ne.mpr c29
        have c29b1:(t472 != 1)=true:=bne_iff_ne.mpr c29
        have HC56:=Aside0.mk H
        clear H
        go_upto_region 14 with (fail)
        go_cut [2] (fun v2 wc=>∃ (kq:Nat) (x2_55:Bool),v2 = .bool x2_55∧Aside0 (laws_FnSubSwap.j1 kq x2_55=some r)∧Aside0 (kq≤kj16)∧Aside0 (Below w.heap.size w wc))
        case first=>
         have H:=HC56.out
         clear HC56
         by_cases c57:(t471.length:Int)=0
         ·rw [if_pos c57] at H
          have c57b0:((t471.length:Int) == 0)=true:=beq_iff_eq.mpr c57
          have c57b1:((t471.length:Int) != 0)=false:=bne_eq_false_iff_eq.mpr c57
          clear c57
          (first|rw [c57b0]|(simp only [i64_w,i32_w];rw [c57b0])|skip)
          by_cases c58:(t475.length:Int)=0
          ·rw [if_pos c58] at H
           have c58b0:((t475.length:Int) == 0)=true:=beq_iff_eq.mpr c58
           have c58b1:((t475.length:Int) != 0)=false:=bne_eq_false_iff_eq.mpr c58
           clear c58
           by_cases c59:t472=2
           ·rw [if_pos c59] at H
            have c59b0:(t472 == 2)=true:=beq_iff_eq.mpr c59
            have c59b1:(t472 != 2)=false:=bne_eq_false_iff_eq.mpr c59
            clear c59
            have H':=Aside0.mk H
            clear H
            obtain ⟨Ao60,co60,eo60⟩:=Kd.S_slice HO_6.out
            subst eo60
            obtain ⟨Ao61,co61,eo61⟩:=Kd.S_slice HO_8.out
            subst eo61
            go_wp2
            go_meet
            case rel=>exact ⟨_,(true),qz8,H',⟨qz81⟩,⟨qz5⟩⟩
           ·rw [if_neg c59] at H
            have c59b0:(t472 == 2)=false:=beq_eq_false_iff_ne.mpr c59
            have c59b1:(t472 != 2)=true:=bne_iff_ne.mpr c59
            have H':=Aside0.mk H
            clear H
            obtain ⟨Ao62,co62,eo62⟩:=Kd.S_slice HO_6.out
            subst eo62
            obtain ⟨Ao63,co63,eo63⟩:=Kd.S_slice HO_8.out
            subst eo63
            go_wp2
            go_meet
            case rel=>exact ⟨_,((t472 == 3)),qz8,H',⟨qz81⟩,⟨qz5⟩⟩
          ·rw [if_neg c58] at H
           have c58b0:((t475.length:Int) == 0)=false:=beq_eq_false_iff_ne.mpr c58
           have c58b1:((t475.length:Int) != 0)=true:=bne_iff_ne.mpr c58
           have c58b2:¬ (t475=[]):=fun h_=>c58 (by rw [h_];rfl)
           have H':=Aside0.mk H
           clear H
           obtain ⟨Ao64,co64,eo64⟩:=Kd.S_slice HO_6.out
           subst eo64
           obtain ⟨Ao65,co65,eo65⟩:=Kd.S_slice HO_8.out
           subst eo65
           go_wp2
           go_meet
           case rel=>exact ⟨_,(false),qz8,H',⟨qz81⟩,⟨qz5⟩⟩
         ·rw [if_neg c57] at H
          have c57b0:((t471.length:Int) == 0)=false:=beq_eq_false_iff_ne.mpr c57
          have c57b1:((t471.length:Int) != 0)=true:=bne_iff_ne.mpr c57
          have c57b2:¬ (t471=[]):=fun h_=>c57 (by rw [h_];rfl)
          (first|rw [c57b0]|(simp only [i64_w,i32_w];rw [c57b0])|skip)
          have H':=Aside0.mk H
          clear H
          obtain ⟨Ao66,co66,eo66⟩:=Kd.S_slice HO_6.out
          subst eo66
          go_wp2
          go_meet
          case rel=>exact ⟨_,(false),qz8,H',⟨qz81⟩,⟨qz5⟩⟩
        case rest=>
         clear HC56
         try clear c1
         try clear c2
         try clear c2b0
         try clear c2b1
         try clear p2
         try clear c3
         try clear c4
         try clear c5
         try clear c6
         try clear c6b0
         try clear c6b1
         try clear c7
         try clear c7b0
         try clear c7b1
         try clear c11
         try clear c20
         try clear c22
         try clear c25
         try clear c25b0
         try clear c25b1
         try clear c28
         try clear c29
         try clear c29b0
         try clear c29b1
         try clear c31
         try clear c35
         try clear c36
         try clear c43
         try clear c45
         try clear c57
         try clear c57b0
         try clear c57b1
         try clear c57b2
         try clear c58
         try clear c58b0
         try clear c58b1
         try clear c58b2
         try clear c59
         try clear c59b0
         try clear c59b1
         try clear p2
         obtain ⟨kq,x2_55,rfl,HA,HJ55,HB⟩:=hcut
         cases kq with
         | zero=>exact absurd HA.out (by simp [laws_FnSubSwap.j1])
         | succ kj55=>
          have H:=HA.out
          clear HA
          simp only [laws_FnSubSwap.j1] at H
          obtain rfl:=Option.some.inj H
          go_wp2
          go_ret
          exact ⟨qz7,qz5⟩
  ·rw [if_neg c6] at H
   have c6b0:(t472 == t476)=false:=beq_eq_false_iff_ne.mpr c6
   have c6b1:(t472 != t476)=true:=bne_iff_ne.mpr c6
   obtain rfl:=Option.some.inj H
   go_enter Tryd.func11,Tryd.ntmps11
   go_wp2_with (first|(go_at_call 43;(with_reducible refine (spec_DrawSubUnify.calls k _ _ l0 t462 t463 t464 _ ?side1 ?side2 A3.out).mono ?_);(case side1=>exact qz27);(case side2=>exact HC0.out);rintro e w67 ⟨v465,v467,v469,rfl,ho0,ho1,ho2,hb⟩;have n0_:=Aside0.mk (Kd.S_lower ho0 (below_size qz4));have n1_:=Aside0.mk (Kd.R_lower ho1 (below_size qz4));have n2_:=Aside0.mk (Kd.R_lower ho2 (below_size qz4));have n3_:=Aside0.mk (below_step qz4 hb);clear HB;have HO466:=n0_;have HO468:=n1_;have HO470:=n2_;have HB:=n3_;clear n0_ n1_ n2_ n3_;(try clear hb);(try clear hb2);(try clear hk);(try clear hi);(try clear ho0);(try clear ho1);(try clear ho2);obtain ⟨Ao68,co68,eo68⟩:=Kd.S_slice HO466.out;subst eo68;obtain ⟨Ao69,co69,eo69⟩:=Kd.R_slice HO468.out;subst eo69;obtain ⟨Ao70,co70,eo70⟩:=Kd.R_slice HO470.out;subst eo70)|(go_at_call 31;(with_reducible refine (impl_SubUnify.calls k _ _ t462 _ _ t463 _ _ t464 t471 t472 _ ?side1 ?side2 ?side3 ?side4 ?side5 ?side6 A4.out).mono ?_);(case side1=>exact qz23);(case side2=>exact (Kd.S_reads' HO466.out).2.1);(case side3=>exact qz24);(case side4=>exact (Kd.R_reads' HO468.out).2.1);(case side5=>exact qz33);(case side6=>exact (Kd.R_reads' HO470.out).2.1);rintro e w71 ⟨v473,rfl,ho0,hb⟩;have n0_:=Aside0.mk (Kd.S_elder' qz19 (Kd.S_base ho0) hb);have n1_:=Aside0.mk (Kd.R_below qz21 hb);have n2_:=Aside0.mk (Kd.R_below qz20 hb);have n3_:=Aside0.mk (Kd.S_lower (Kd.S_new' (Kd.S_new' (Kd.S_new' ho0 (Kd.S_lt qz19)) (Kd.R_lt qz21)) (Kd.R_lt qz20)) (below_size qz4));have n4_:=Aside0.mk (below_step qz4 hb);clear HO466 HO468 HO470 HB;have HO466:=n0_;have HO468:=n1_;have HO470:=n2_;have HO474:=n3_;have HB:=n4_;clear n0_ n1_ n2_ n3_ n4_;(try clear hb);(try clear hb2);(try clear hk);(try clear hi);(try clear ho0))|(go_at_call 31;(with_reducible refine (impl_SubUnify.calls k _ _ t462 _ _ t464 _ _ t463 t475 t476 _ ?side1 ?side2 ?side3 ?side4 ?side5 ?side6 A5.out).mono ?_);(case side1=>exact qz23);(case side2=>exact (Kd.S_reads' HO466.out).2.1);(case side3=>exact qz33);(case side4=>exact (Kd.R_reads' HO470.out).2.1);(case side5=>exact qz24);(case side6=>exact (Kd.R_reads' HO468.out).2.1);rintro e w72 ⟨v477,rfl,ho0,hb⟩;have n0_:=Aside0.mk (Kd.S_elder' qz19 (Kd.S_base ho0) hb);have n1_:=Aside0.mk (Kd.R_below qz21 hb);have n2_:=Aside0.mk (Kd.R_below qz20 hb);have n3_:=Aside0.mk (Kd.S_elder' qz34 (Kd.S_base ho0) hb);have n4_:=Aside0.mk (Kd.S_lower (Kd.S_new' (Kd.S_new' (Kd.S_new' (Kd.S_new' ho0 (Kd.S_lt qz19)) (Kd.R_lt qz21)) (Kd.R_lt qz20)) (Kd.S_lt qz34)) (below_size qz4));have n5_:=Aside0.mk (below_step qz4 hb);clear HO466 HO468 HO470 HO474 HB;have HO466:=n0_;have HO468:=n1_;have HO470:=n2_;have HO474:=n3_;have HO478:=n4_;have HB:=n5_;clear n0_ n1_ n2_ n3_ n4_ n5_;(try clear hb);(try clear hb2);(try clear hk);(try clear hi);(try clear ho0)))
   go_ret
   exact ⟨qz7,qz5⟩

end Go.Proofs.YtlaicnoikeieeaaDoor.P
