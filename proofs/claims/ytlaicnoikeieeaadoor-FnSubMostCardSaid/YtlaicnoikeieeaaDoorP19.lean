/- Contracts of functions of the program: each as a Lean function, and that its call does what that says; printed by cprint.py (this session) over print.py of the kit. Conditions: the hypotheses of each theorem. -/
import Derived.Test.YtlaicnoikeieeaaDoorVZ
import Derived.Test.YtlaicnoikeieeaaDoorP0
import Derived.Test.YtlaicnoikeieeaaDoorP7
import Derived.Test.YtlaicnoikeieeaaDoorP14
import Derived.Test.YtlaicnoikeieeaaDoorP18
namespace Go.Proofs.YtlaicnoikeieeaaDoor.P
open Go.RowKit Go.Proofs.YtlaicnoikeieeaaDoorW.PrintWords Go.Proofs.YtlaicnoikeieeaaDoorW.PrintLast Go.Proofs.YtlaicnoikeieeaaDoorW.PrintMore
attribute [local go_sem] max2_int min2_int max_two min_two max_three min_three max_four min_four   -- for this text's walks alone
set_option linter.unusedVariables false
set_option linter.unusedSimpArgs false

/-! ### laws_FnSubMost: function 9 -/
def laws_FnSubMost.j0:Nat→Bool→Option (Bool)
 | 0,_=>none
 | k+1,x2=>some x2
def laws_FnSubMost.f (k:Nat) (l0:List Int):Option (Bool):=if (l0.length:Int) > 1048576 then (some true) else ((spec_DrawSubUnify.f k l0).bind fun bt447=>((impl_SubUnify.f k bt447.1 bt447.2.1 bt447.2.2).bind fun bt456=>(if bt456.2=1 then ((impl_SubUnify.f k (([]:List (S30))) bt447.2.1 bt447.2.2).bind fun bt464=>(if bt464.2=1 then ((impl_SubFull.f k bt464.1 bt447.2.1).bind fun bt468=>((impl_SubFull.f k bt456.1 bt468.1).bind fun bt472=>((impl_SubFull.f k bt456.1 bt447.2.1).bind fun bt476=>(if bt468.2=true then (if bt472.2=true then (if bt476.2=true then ((laws_caTerm.f k bt472.1 bt476.1).bind fun t480=>(laws_FnSubMost.j0 k t480)) else (laws_FnSubMost.j0 k false)) else (laws_FnSubMost.j0 k false)) else (laws_FnSubMost.j0 k false))))) else (some false))) else ((laws_caOk.f).bind fun t460=>(some t460)))))
set_option maxHeartbeats 8000000 in
set_option maxRecDepth 100000 in
theorem laws_FnSubMost.calls (k:Nat) (A0:Option Addr) (c0:Nat) (l0:List Int) (r:Bool) (w:World) (hr0:Kd.C (Kd.int .u8) w A0 l0.length l0) (hc0:l0.length≤c0) (h:laws_FnSubMost.f k l0=some r) :
  Calls Tryd.prog 9 #[.slice A0 l0.length c0] w fun e w'=>e = .returned (.bool r)∧Below w.heap.size w w':=by
 have HR0:=Aside0.mk hr0
 have HC0:=Aside0.mk hc0
 clear hr0 hc0
 have HB:=Aside0.mk (Below.refl w.heap.size w)
 have H:(if (l0.length:Int) > 1048576 then (some true) else ((spec_DrawSubUnify.f k l0).bind fun bt447=>((impl_SubUnify.f k bt447.1 bt447.2.1 bt447.2.2).bind fun bt456=>(if bt456.2=1 then ((impl_SubUnify.f k (([]:List (S30))) bt447.2.1 bt447.2.2).bind fun bt464=>(if bt464.2=1 then ((impl_SubFull.f k bt464.1 bt447.2.1).bind fun bt468=>((impl_SubFull.f k bt456.1 bt468.1).bind fun bt472=>((impl_SubFull.f k bt456.1 bt447.2.1).bind fun bt476=>(if bt468.2=true then (if bt472.2=true then (if bt476.2=true then ((laws_caTerm.f k bt472.1 bt476.1).bind fun t480=>(laws_FnSubMost.j0 k t480)) else (laws_FnSubMost.j0 k false)) else (laws_FnSubMost.j0 k false)) else (laws_FnSubMost.j0 k false))))) else (some false))) else ((laws_caOk.f).bind fun t460=>(some t460))))))=some r:=h
 clear h
 by_cases c2:(l0.length:Int) > 1048576
 ·rw [if_pos c2] at H
  have c2b0:decide (1048576<(l0.length:Int))=true:=decide_eq_true c2
  have c2b1:decide (1048576<l0.length)=true:=decide_eq_true (by omega)
  clear c2
  obtain rfl:=Option.some.inj H
  go_enter Tryd.func9,Tryd.ntmps9
  go_wp2
  go_ret
  exact ⟨qz7,qz5⟩
 ·rw [if_neg c2] at H
  have c2b0:decide (1048576<(l0.length:Int))=false:=decide_eq_false c2
  have c2b1:decide (1048576<l0.length)=false:=decide_eq_false (by omega)
  clear c2
  replace H:=Option.bind_eq_some_iff.mp H
  obtain ⟨⟨t447,t448,t449⟩,A30,H⟩:=H
  try dsimp only at H
  have A3:=Aside0.mk A30
  clear A30
  replace H:=Option.bind_eq_some_iff.mp H
  obtain ⟨⟨t456,t457⟩,A40,H⟩:=H
  try dsimp only at H
  have A4:=Aside0.mk A40
  clear A40
  by_cases c5:t457=1
  ·rw [if_pos c5] at H
   have c5b0:(t457 == 1)=true:=beq_iff_eq.mpr c5
   have c5b1:(t457 != 1)=false:=bne_eq_false_iff_eq.mpr c5
   clear c5
   obtain ⟨y461,hy461⟩:∃ y_:List (S30),y_=(([]:List (S30))):=⟨_,rfl⟩
   replace H:((impl_SubUnify.f k y461 t448 t449).bind fun bt464=>(if bt464.2=1 then ((impl_SubFull.f k bt464.1 t448).bind fun bt468=>((impl_SubFull.f k t456 bt468.1).bind fun bt472=>((impl_SubFull.f k t456 t448).bind fun bt476=>(if bt468.2=true then (if bt472.2=true then (if bt476.2=true then ((laws_caTerm.f k bt472.1 bt476.1).bind fun t480=>(laws_FnSubMost.j0 k t480)) else (laws_FnSubMost.j0 k false)) else (laws_FnSubMost.j0 k false)) else (laws_FnSubMost.j0 k false))))) else (some false)))=some r:=by first|(rw [hy461];exact H)|exact H
   have Ny461:=Aside0.mk hy461
   clear hy461
   replace H:=Option.bind_eq_some_iff.mp H
   obtain ⟨⟨t464,t465⟩,A60,H⟩:=H
   try dsimp only at H
   have A6:=Aside0.mk A60
   clear A60
   by_cases c7:t465=1
   ·rw [if_pos c7] at H
    have c7b0:(t465 == 1)=true:=beq_iff_eq.mpr c7
    have c7b1:(t465 != 1)=false:=bne_eq_false_iff_eq.mpr c7
    clear c7
    replace H:=Option.bind_eq_some_iff.mp H
    obtain ⟨⟨t468,t469⟩,A80,H⟩:=H
    try dsimp only at H
    have A8:=Aside0.mk A80
    clear A80
    replace H:=Option.bind_eq_some_iff.mp H
    obtain ⟨⟨t472,t473⟩,A90,H⟩:=H
    try dsimp only at H
    have A9:=Aside0.mk A90
    clear A90
    replace H:=Option.bind_eq_some_iff.mp H
    obtain ⟨⟨t476,t477⟩,A100,H⟩:=H
    try dsimp only at H
    have A10:=Aside0.mk A100
    clear A100
    have HC11:=Aside0.mk H
    clear H
    go_enter Tryd.func9,Tryd.ntmps9
    go_upto_region 13 with (first|(go_at_call 43;(with_reducible refine (spec_DrawSubUnify.calls k _ _ l0 t447 t448 t449 _ ?side1 ?side2 A3.out).mono ?_);(case side1=>exact qz28);(case side2=>exact HC0.out);rintro e w12 ⟨v450,v452,v454,rfl,ho0,ho1,ho2,hb⟩;have n0_:=Aside0.mk (Kd.S_lower ho0 (below_size qz4));have n1_:=Aside0.mk (Kd.R_lower ho1 (below_size qz4));have n2_:=Aside0.mk (Kd.R_lower ho2 (below_size qz4));have n3_:=Aside0.mk (below_step qz4 hb);clear HB;have HO451:=n0_;have HO453:=n1_;have HO455:=n2_;have HB:=n3_;clear n0_ n1_ n2_ n3_;(try clear hb);(try clear hb2);(try clear hk);(try clear hi);(try clear ho0);(try clear ho1);(try clear ho2);obtain ⟨Ao13,co13,eo13⟩:=Kd.S_slice HO451.out;subst eo13;obtain ⟨Ao14,co14,eo14⟩:=Kd.R_slice HO453.out;subst eo14;obtain ⟨Ao15,co15,eo15⟩:=Kd.R_slice HO455.out;subst eo15)|(go_at_call 31;(with_reducible refine (impl_SubUnify.calls k _ _ t447 _ _ t448 _ _ t449 t456 t457 _ ?side1 ?side2 ?side3 ?side4 ?side5 ?side6 A4.out).mono ?_);(case side1=>exact qz48);(case side2=>exact (Kd.S_reads' HO451.out).2.1);(case side3=>exact qz25);(case side4=>exact (Kd.R_reads' HO453.out).2.1);(case side5=>exact qz35);(case side6=>exact (Kd.R_reads' HO455.out).2.1);rintro e w16 ⟨v458,rfl,ho0,hb⟩;have n0_:=Aside0.mk (Kd.S_elder' qz19 (Kd.S_base ho0) hb);have n1_:=Aside0.mk (Kd.R_below qz17 hb);have n2_:=Aside0.mk (Kd.R_below qz16 hb);have n3_:=Aside0.mk (Kd.S_lower (Kd.S_new' (Kd.S_new' (Kd.S_new' ho0 (Kd.S_lt qz19)) (Kd.R_lt qz17)) (Kd.R_lt qz16)) (below_size qz4));have n4_:=Aside0.mk (below_step qz4 hb);clear HO451 HO453 HO455 HB;have HO451:=n0_;have HO453:=n1_;have HO455:=n2_;have HO459:=n3_;have HB:=n4_;clear n0_ n1_ n2_ n3_ n4_;(try clear hb);(try clear hb2);(try clear hk);(try clear hi);(try clear ho0))|((with_reducible refine gate_dst (N:=36) rfl ?_);refine Kd.S_lit k30 _ 30 ?hg (N:=36) ?hd (xs:=([]:List (S30))) (inner:=[]) (ok:=fun _=>True) (okp:=fun _=>True) ?hr ?hp (fun _ hk=>hk) trivial (Below.refl _ _) (Nat.le_refl _) (by simp) ?_;(case hd=>rfl);(case hg=>rfl);(case hr=>first|(go_simp;done)|(go_simp;rfl));(case hp=>exact (Reps.none _ _));intro v462 w17 ho18 hb hg_ hnew_;clear hg_ hnew_;(first|rw [← Ny461.out] at ho18|(simp only [Int.reduceToNat] at ho18;rw [← Ny461.out] at ho18));have n0_:=Aside0.mk (Kd.S_elder' qz19 (Kd.S_base ho18) hb);have n1_:=Aside0.mk (Kd.R_below qz17 hb);have n2_:=Aside0.mk (Kd.R_below qz16 hb);have n3_:=Aside0.mk (Kd.S_elder' qz23 (Kd.S_base ho18) hb);have n4_:=Aside0.mk (Kd.S_lower (Kd.S_new' (Kd.S_new' (Kd.S_new' (Kd.S_new' ho18 (Kd.S_lt qz19)) (Kd.R_lt qz17)) (Kd.R_lt qz16)) (Kd.S_lt qz23)) (below_size qz4));have n5_:=Aside0.mk (below_step qz4 hb);clear HO451 HO453 HO455 HO459 HB;have HO451:=n0_;have HO453:=n1_;have HO455:=n2_;have HO459:=n3_;have HO463:=n4_;have HB:=n5_;clear n0_ n1_ n2_ n3_ n4_ n5_ hb ho18;obtain ⟨Ao19,co19,eo19⟩:=Kd.S_slice HO463.out;subst eo19)|(go_at_call 31;(with_reducible refine (impl_SubUnify.calls k _ _ y461 _ _ t448 _ _ t449 t464 t465 _ ?side1 ?side2 ?side3 ?side4 ?side5 ?side6 A6.out).mono ?_);(case side1=>exact qz65);(case side2=>exact (Kd.S_reads' HO463.out).2.1);(case side3=>exact qz25);(case side4=>exact (Kd.R_reads' HO453.out).2.1);(case side5=>exact qz35);(case side6=>exact (Kd.R_reads' HO455.out).2.1);rintro e w20 ⟨v466,rfl,ho0,hb⟩;have n0_:=Aside0.mk (Kd.S_elder' qz19 (Kd.S_base ho0) hb);have n1_:=Aside0.mk (Kd.R_below qz17 hb);have n2_:=Aside0.mk (Kd.R_below qz16 hb);have n3_:=Aside0.mk (Kd.S_elder' qz23 (Kd.S_base ho0) hb);have n4_:=Aside0.mk (Kd.S_elder' qz37 (Kd.S_base ho0) hb);have n5_:=Aside0.mk (Kd.S_lower (Kd.S_new' (Kd.S_new' (Kd.S_new' (Kd.S_new' (Kd.S_new' ho0 (Kd.S_lt qz19)) (Kd.R_lt qz17)) (Kd.R_lt qz16)) (Kd.S_lt qz23)) (Kd.S_lt qz37)) (below_size qz4));have n6_:=Aside0.mk (below_step qz4 hb);clear HO451 HO453 HO455 HO459 HO463 HB;have HO451:=n0_;have HO453:=n1_;have HO455:=n2_;have HO459:=n3_;have HO463:=n4_;have HO467:=n5_;have HB:=n6_;clear n0_ n1_ n2_ n3_ n4_ n5_ n6_;(try clear hb);(try clear hb2);(try clear hk);(try clear hi);(try clear ho0);obtain ⟨Ao21,co21,eo21⟩:=Kd.S_slice HO467.out;subst eo21)|(go_at_call 36;(with_reducible refine (impl_SubFull.calls k _ _ t464 _ _ t448 t468 t469 _ ?side1 ?side2 ?side3 ?side4 A8.out).mono ?_);(case side1=>repeat (first|exact (Kd.S_reads' HO467.out).2.2|(with_reducible refine Kd.C_alloc ?_ _)|(with_reducible refine Kd.C_drewN ?_ _)|(with_reducible refine Kd.C_drew ?_)));(case side2=>exact (Kd.S_reads' HO467.out).2.1);(case side3=>exact qz25);(case side4=>exact (Kd.R_reads' HO453.out).2.1);rintro e w22 ⟨v470,rfl,ho0,hb⟩;have n0_:=Aside0.mk (Kd.S_elder' qz19 (Kd.R_base ho0) hb);have n1_:=Aside0.mk (Kd.R_elder' qz17 (Kd.R_base ho0) hb);have n2_:=Aside0.mk (Kd.R_elder' qz16 (Kd.R_base ho0) hb);have n3_:=Aside0.mk (Kd.S_elder' qz23 (Kd.R_base ho0) hb);have n4_:=Aside0.mk (Kd.S_elder' qz37 (Kd.R_base ho0) hb);have n5_:=Aside0.mk (Kd.S_elder' qz58 (Kd.R_base ho0) hb);have n6_:=Aside0.mk (Kd.R_lower (Kd.R_new' (Kd.R_new' ho0 (Kd.R_lt qz17)) (Kd.R_lt qz16)) (below_size qz4));have n7_:=Aside0.mk (below_step qz4 hb);clear HO451 HO453 HO455 HO459 HO463 HO467 HB;have HO451:=n0_;have HO453:=n1_;have HO455:=n2_;have HO459:=n3_;have HO463:=n4_;have HO467:=n5_;have HO471:=n6_;have HB:=n7_;clear n0_ n1_ n2_ n3_ n4_ n5_ n6_ n7_;(try clear hb);(try clear hb2);(try clear hk);(try clear hi);(try clear ho0);obtain ⟨Ao23,co23,eo23⟩:=Kd.S_slice HO459.out;subst eo23;obtain ⟨Ao24,co24,eo24⟩:=Kd.R_slice HO471.out;subst eo24)|(go_at_call 36;(with_reducible refine (impl_SubFull.calls k _ _ t456 _ _ t468 t472 t473 _ ?side1 ?side2 ?side3 ?side4 A9.out).mono ?_);(case side1=>exact qz66);(case side2=>exact (Kd.S_reads' HO459.out).2.1);(case side3=>repeat (first|exact (Kd.R_reads' HO471.out).2.2|(with_reducible refine Kd.C_alloc ?_ _)|(with_reducible refine Kd.C_drewN ?_ _)|(with_reducible refine Kd.C_drew ?_)));(case side4=>exact (Kd.R_reads' HO471.out).2.1);rintro e w25 ⟨v474,rfl,ho0,hb⟩;have n0_:=Aside0.mk (Kd.S_elder' qz19 (Kd.R_base ho0) hb);have n1_:=Aside0.mk (Kd.R_elder' qz17 (Kd.R_base ho0) hb);have n2_:=Aside0.mk (Kd.R_elder' qz16 (Kd.R_base ho0) hb);have n3_:=Aside0.mk (Kd.S_elder' qz23 (Kd.R_base ho0) hb);have n4_:=Aside0.mk (Kd.S_elder' qz37 (Kd.R_base ho0) hb);have n5_:=Aside0.mk (Kd.S_elder' qz58 (Kd.R_base ho0) hb);have n6_:=Aside0.mk (Kd.R_elder' qz53 (Kd.R_base ho0) hb);have n7_:=Aside0.mk (Kd.R_lower (Kd.R_new' (Kd.R_new' (Kd.R_new' ho0 (Kd.R_lt qz17)) (Kd.R_lt qz16)) (Kd.R_lt qz53)) (below_size qz4));have n8_:=Aside0.mk (below_step qz4 hb);clear HO451 HO453 HO455 HO459 HO463 HO467 HO471 HB;have HO451:=n0_;have HO453:=n1_;have HO455:=n2_;have HO459:=n3_;have HO463:=n4_;have HO467:=n5_;have HO471:=n6_;have HO475:=n7_;have HB:=n8_;clear n0_ n1_ n2_ n3_ n4_ n5_ n6_ n7_ n8_;(try clear hb);(try clear hb2);(try clear hk);(try clear hi);(try clear ho0))|(go_at_call 36;(with_reducible refine (impl_SubFull.calls k _ _ t456 _ _ t448 t476 t477 _ ?side1 ?side2 ?side3 ?side4 A10.out).mono ?_);(case side1=>exact qz66);(case side2=>exact (Kd.S_reads' HO459.out).2.1);(case side3=>exact qz25);(case side4=>exact (Kd.R_reads' HO453.out).2.1);rintro e w26 ⟨v478,rfl,ho0,hb⟩;have n0_:=Aside0.mk (Kd.S_elder' qz19 (Kd.R_base ho0) hb);have n1_:=Aside0.mk (Kd.R_elder' qz17 (Kd.R_base ho0) hb);have n2_:=Aside0.mk (Kd.R_elder' qz16 (Kd.R_base ho0) hb);have n3_:=Aside0.mk (Kd.S_elder' qz23 (Kd.R_base ho0) hb);have n4_:=Aside0.mk (Kd.S_elder' qz37 (Kd.R_base ho0) hb);have n5_:=Aside0.mk (Kd.S_elder' qz58 (Kd.R_base ho0) hb);have n6_:=Aside0.mk (Kd.R_elder' qz53 (Kd.R_base ho0) hb);have n7_:=Aside0.mk (Kd.R_elder' (by (with_reducible repeat (first|apply Kd.R_alloc|apply Kd.R_drewN|apply Kd.R_drew));exact HO475.out) (Kd.R_base ho0) hb);have n8_:=Aside0.mk (Kd.R_lower (Kd.R_new' (Kd.R_new' (Kd.R_new' (Kd.R_new' ho0 (Kd.R_lt qz17)) (Kd.R_lt qz16)) (Kd.R_lt qz53)) (Kd.R_lt (by (with_reducible repeat (first|apply Kd.R_alloc|apply Kd.R_drewN|apply Kd.R_drew));exact HO475.out))) (below_size qz4));have n9_:=Aside0.mk (below_step qz4 hb);clear HO451 HO453 HO455 HO459 HO463 HO467 HO471 HO475 HB;have HO451:=n0_;have HO453:=n1_;have HO455:=n2_;have HO459:=n3_;have HO463:=n4_;have HO467:=n5_;have HO471:=n6_;have HO475:=n7_;have HO479:=n8_;have HB:=n9_;clear n0_ n1_ n2_ n3_ n4_ n5_ n6_ n7_ n8_ n9_;(try clear hb);(try clear hb2);(try clear hk);(try clear hi);(try clear ho0)))
    (try simp only [Act.put,List.setIfInBounds_toArray,List.set_cons_zero,List.set_cons_succ])
    go_cut [2] (fun v2 wc=>∃ (kq:Nat) (x2_10:Bool),v2 = .bool x2_10∧Aside0 (laws_FnSubMost.j0 kq x2_10=some r)∧Aside0 (kq≤k)∧Aside0 (Below w.heap.size w wc))
    case first=>
     have H:=HC11.out
     clear HC11
     by_cases c27:t469=true
     ·subst c27
      have H1:(if t473=true then (if t477=true then ((laws_caTerm.f k t472 t476).bind fun t480=>(laws_FnSubMost.j0 k t480)) else (laws_FnSubMost.j0 k false)) else (laws_FnSubMost.j0 k false))=some r:=qz43
      clear H
      have H:=H1
      clear H1
      by_cases c28:t473=true
      ·subst c28
       have H1:(if t477=true then ((laws_caTerm.f k t472 t476).bind fun t480=>(laws_FnSubMost.j0 k t480)) else (laws_FnSubMost.j0 k false))=some r:=qz43
       clear H
       have H:=H1
       clear H1
       by_cases c29:t477=true
       ·subst c29
        have H1:((laws_caTerm.f k t472 t476).bind fun t480=>(laws_FnSubMost.j0 k t480))=some r:=qz43
        clear H
        have H:=H1
        clear H1
        replace H:=Option.bind_eq_some_iff.mp H
        obtain ⟨t480,A300,H⟩:=H
        try dsimp only at H
        have A30:=Aside0.mk A300
        clear A300
        have H':=Aside0.mk H
        clear H
        obtain ⟨Ao31,co31,eo31⟩:=Kd.R_slice HO475.out
        subst eo31
        obtain ⟨Ao32,co32,eo32⟩:=Kd.R_slice HO479.out
        subst eo32
        go_wp2_with (first|(go_at_call 20;(with_reducible refine (laws_caTerm.calls k _ _ t472 _ _ t476 t480 _ ?side1 ?side2 ?side3 ?side4 A30.out).mono ?_);(case side1=>repeat (first|exact (Kd.R_reads' HO475.out).2.2|(with_reducible refine Kd.C_alloc ?_ _)|(with_reducible refine Kd.C_drewN ?_ _)|(with_reducible refine Kd.C_drew ?_)));(case side2=>exact (Kd.R_reads' HO475.out).2.1);(case side3=>repeat (first|exact (Kd.R_reads' HO479.out).2.2|(with_reducible refine Kd.C_alloc ?_ _)|(with_reducible refine Kd.C_drewN ?_ _)|(with_reducible refine Kd.C_drew ?_)));(case side4=>exact (Kd.R_reads' HO479.out).2.1);rintro e w' ⟨rfl,⟨nd,rfl⟩⟩))
        go_meet
        case rel=>exact ⟨_,(t480),qz9,H',⟨qz51⟩,⟨qz5⟩⟩
       ·replace c29:=Bool.eq_false_iff.mpr c29
        subst c29
        have H1:(laws_FnSubMost.j0 k false)=some r:=qz24
        clear H
        have H:=H1
        clear H1
        have H':=Aside0.mk H
        clear H
        go_wp2
        go_meet
        case rel=>exact ⟨_,(false),qz9,H',⟨qz51⟩,⟨qz5⟩⟩
      ·replace c28:=Bool.eq_false_iff.mpr c28
       subst c28
       have H1:(laws_FnSubMost.j0 k false)=some r:=qz24
       clear H
       have H:=H1
       clear H1
       have H':=Aside0.mk H
       clear H
       go_wp2
       go_meet
       case rel=>exact ⟨_,(false),qz9,H',⟨qz51⟩,⟨qz5⟩⟩
     ·replace c27:=Bool.eq_false_iff.mpr c27
      subst c27
      have H1:(laws_FnSubMost.j0 k false)=some r:=qz24
      clear H
      have H:=H1
      clear H1
      have H':=Aside0.mk H
      clear H
      go_wp2
      go_meet
      case rel=>exact ⟨_,(false),qz9,H',⟨qz51⟩,⟨qz5⟩⟩
    case rest=>
     clear HC11
     try clear c2
     try clear c2b0
     try clear c2b1
     try clear p2
     try clear c3
     try clear c4
     try clear c5
     try clear c5b0
     try clear c5b1
     try clear c7
     try clear c7b0
     try clear c7b1
     try clear c9
     try clear c27
     try clear c28
     try clear c29
     try clear c31
     obtain ⟨kq,x2_10,rfl,HA,HJ10,HB⟩:=hcut
     cases kq with
     | zero=>exact absurd HA.out (by simp [laws_FnSubMost.j0])
     | succ kj10=>
      have H:=HA.out
      clear HA
      simp only [laws_FnSubMost.j0] at H
      obtain rfl:=Option.some.inj H
      go_wp2
      go_ret
      exact ⟨qz7,qz5⟩
   ·rw [if_neg c7] at H
    have c7b0:(t465 == 1)=false:=beq_eq_false_iff_ne.mpr c7
    have c7b1:(t465 != 1)=true:=bne_iff_ne.mpr c7
    obtain rfl:=Option.some.inj H
    go_enter Tryd.func9,Tryd.ntmps9
    go_wp2_with (first|(go_at_call 43;(with_reducible refine (spec_DrawSubUnify.calls k _ _ l0 t447 t448 t449 _ ?side1 ?side2 A3.out).mono ?_);(case side1=>exact qz28);(case side2=>exact HC0.out);rintro e w33 ⟨v450,v452,v454,rfl,ho0,ho1,ho2,hb⟩;have n0_:=Aside0.mk (Kd.S_lower ho0 (below_size qz4));have n1_:=Aside0.mk (Kd.R_lower ho1 (below_size qz4));have n2_:=Aside0.mk (Kd.R_lower ho2 (below_size qz4));have n3_:=Aside0.mk (below_step qz4 hb);clear HB;have HO451:=n0_;have HO453:=n1_;have HO455:=n2_;have HB:=n3_;clear n0_ n1_ n2_ n3_;(try clear hb);(try clear hb2);(try clear hk);(try clear hi);(try clear ho0);(try clear ho1);(try clear ho2);obtain ⟨Ao34,co34,eo34⟩:=Kd.S_slice HO451.out;subst eo34;obtain ⟨Ao35,co35,eo35⟩:=Kd.R_slice HO453.out;subst eo35;obtain ⟨Ao36,co36,eo36⟩:=Kd.R_slice HO455.out;subst eo36)|(go_at_call 31;(with_reducible refine (impl_SubUnify.calls k _ _ t447 _ _ t448 _ _ t449 t456 t457 _ ?side1 ?side2 ?side3 ?side4 ?side5 ?side6 A4.out).mono ?_);(case side1=>exact qz48);(case side2=>exact (Kd.S_reads' HO451.out).2.1);(case side3=>exact qz25);(case side4=>exact (Kd.R_reads' HO453.out).2.1);(case side5=>exact qz35);(case side6=>exact (Kd.R_reads' HO455.out).2.1);rintro e w37 ⟨v458,rfl,ho0,hb⟩;have n0_:=Aside0.mk (Kd.S_elder' qz19 (Kd.S_base ho0) hb);have n1_:=Aside0.mk (Kd.R_below qz17 hb);have n2_:=Aside0.mk (Kd.R_below qz16 hb);have n3_:=Aside0.mk (Kd.S_lower (Kd.S_new' (Kd.S_new' (Kd.S_new' ho0 (Kd.S_lt qz19)) (Kd.R_lt qz17)) (Kd.R_lt qz16)) (below_size qz4));have n4_:=Aside0.mk (below_step qz4 hb);clear HO451 HO453 HO455 HB;have HO451:=n0_;have HO453:=n1_;have HO455:=n2_;have HO459:=n3_;have HB:=n4_;clear n0_ n1_ n2_ n3_ n4_;(try clear hb);(try clear hb2);(try clear hk);(try clear hi);(try clear ho0))|((with_reducible refine gate_dst (N:=36) rfl ?_);refine Kd.S_lit k30 _ 30 ?hg (N:=36) ?hd (xs:=([]:List (S30))) (inner:=[]) (ok:=fun _=>True) (okp:=fun _=>True) ?hr ?hp (fun _ hk=>hk) trivial (Below.refl _ _) (Nat.le_refl _) (by simp) ?_;(case hd=>rfl);(case hg=>rfl);(case hr=>first|(go_simp;done)|(go_simp;rfl));(case hp=>exact (Reps.none _ _));intro v462 w38 ho39 hb hg_ hnew_;clear hg_ hnew_;(first|rw [← Ny461.out] at ho39|(simp only [Int.reduceToNat] at ho39;rw [← Ny461.out] at ho39));have n0_:=Aside0.mk (Kd.S_elder' qz19 (Kd.S_base ho39) hb);have n1_:=Aside0.mk (Kd.R_below qz17 hb);have n2_:=Aside0.mk (Kd.R_below qz16 hb);have n3_:=Aside0.mk (Kd.S_elder' qz23 (Kd.S_base ho39) hb);have n4_:=Aside0.mk (Kd.S_lower (Kd.S_new' (Kd.S_new' (Kd.S_new' (Kd.S_new' ho39 (Kd.S_lt qz19)) (Kd.R_lt qz17)) (Kd.R_lt qz16)) (Kd.S_lt qz23)) (below_size qz4));have n5_:=Aside0.mk (below_step qz4 hb);clear HO451 HO453 HO455 HO459 HB;have HO451:=n0_;have HO453:=n1_;have HO455:=n2_;have HO459:=n3_;have HO463:=n4_;have HB:=n5_;clear n0_ n1_ n2_ n3_ n4_ n5_ hb ho39;obtain ⟨Ao40,co40,eo40⟩:=Kd.S_slice HO463.out;subst eo40)|(go_at_call 31;(with_reducible refine (impl_SubUnify.calls k _ _ y461 _ _ t448 _ _ t449 t464 t465 _ ?side1 ?side2 ?side3 ?side4 ?side5 ?side6 A6.out).mono ?_);(case side1=>exact qz65);(case side2=>exact (Kd.S_reads' HO463.out).2.1);(case side3=>exact qz25);(case side4=>exact (Kd.R_reads' HO453.out).2.1);(case side5=>exact qz35);(case side6=>exact (Kd.R_reads' HO455.out).2.1);rintro e w41 ⟨v466,rfl,ho0,hb⟩;have n0_:=Aside0.mk (Kd.S_elder' qz19 (Kd.S_base ho0) hb);have n1_:=Aside0.mk (Kd.R_below qz17 hb);have n2_:=Aside0.mk (Kd.R_below qz16 hb);have n3_:=Aside0.mk (Kd.S_elder' qz23 (Kd.S_base ho0) hb);have n4_:=Aside0.mk (Kd.S_elder' qz37 (Kd.S_base ho0) hb);have n5_:=Aside0.mk (Kd.S_lower (Kd.S_new' (Kd.S_new' (Kd.S_new' (Kd.S_new' (Kd.S_new' ho0 (Kd.S_lt qz19)) (Kd.R_lt qz17)) (Kd.R_lt qz16)) (Kd.S_lt qz23)) (Kd.S_lt qz37)) (below_size qz4));have n6_:=Aside0.mk (below_step qz4 hb);clear HO451 HO453 HO455 HO459 HO463 HB;have HO451:=n0_;have HO453:=n1_;have HO455:=n2_;have HO459:=n3_;have HO463:=n4_;have HO467:=n5_;have HB:=n6_;clear n0_ n1_ n2_ n3_ n4_ n5_ n6_;(try clear hb);(try clear hb2);(try clear hk);(try clear hi);(try clear ho0)))
    go_ret
    exact ⟨qz7,qz5⟩
  ·rw [if_neg c5] at H
   have c5b0:(t457 == 1)=false:=beq_eq_false_iff_ne.mpr c5
   have c5b1:(t457 != 1)=true:=bne_iff_ne.mpr c5
   replace H:=Option.bind_eq_some_iff.mp H
   obtain ⟨t460,A420,H⟩:=H
   try dsimp only at H
   have A42:=Aside0.mk A420
   clear A420
   obtain rfl:=Option.some.inj H
   go_enter Tryd.func9,Tryd.ntmps9
   go_wp2_with (first|(go_at_call 43;(with_reducible refine (spec_DrawSubUnify.calls k _ _ l0 t447 t448 t449 _ ?side1 ?side2 A3.out).mono ?_);(case side1=>exact qz28);(case side2=>exact HC0.out);rintro e w43 ⟨v450,v452,v454,rfl,ho0,ho1,ho2,hb⟩;have n0_:=Aside0.mk (Kd.S_lower ho0 (below_size qz4));have n1_:=Aside0.mk (Kd.R_lower ho1 (below_size qz4));have n2_:=Aside0.mk (Kd.R_lower ho2 (below_size qz4));have n3_:=Aside0.mk (below_step qz4 hb);clear HB;have HO451:=n0_;have HO453:=n1_;have HO455:=n2_;have HB:=n3_;clear n0_ n1_ n2_ n3_;(try clear hb);(try clear hb2);(try clear hk);(try clear hi);(try clear ho0);(try clear ho1);(try clear ho2);obtain ⟨Ao44,co44,eo44⟩:=Kd.S_slice HO451.out;subst eo44;obtain ⟨Ao45,co45,eo45⟩:=Kd.R_slice HO453.out;subst eo45;obtain ⟨Ao46,co46,eo46⟩:=Kd.R_slice HO455.out;subst eo46)|(go_at_call 31;(with_reducible refine (impl_SubUnify.calls k _ _ t447 _ _ t448 _ _ t449 t456 t457 _ ?side1 ?side2 ?side3 ?side4 ?side5 ?side6 A4.out).mono ?_);(case side1=>exact qz48);(case side2=>exact (Kd.S_reads' HO451.out).2.1);(case side3=>exact qz25);(case side4=>exact (Kd.R_reads' HO453.out).2.1);(case side5=>exact qz35);(case side6=>exact (Kd.R_reads' HO455.out).2.1);rintro e w47 ⟨v458,rfl,ho0,hb⟩;have n0_:=Aside0.mk (Kd.S_elder' qz19 (Kd.S_base ho0) hb);have n1_:=Aside0.mk (Kd.R_below qz17 hb);have n2_:=Aside0.mk (Kd.R_below qz16 hb);have n3_:=Aside0.mk (Kd.S_lower (Kd.S_new' (Kd.S_new' (Kd.S_new' ho0 (Kd.S_lt qz19)) (Kd.R_lt qz17)) (Kd.R_lt qz16)) (below_size qz4));have n4_:=Aside0.mk (below_step qz4 hb);clear HO451 HO453 HO455 HB;have HO451:=n0_;have HO453:=n1_;have HO455:=n2_;have HO459:=n3_;have HB:=n4_;clear n0_ n1_ n2_ n3_ n4_;(try clear hb);(try clear hb2);(try clear hk);(try clear hi);(try clear ho0))|(go_at_call 22;(with_reducible refine (laws_caOk.calls  t460 _ A42.out).mono ?_);rintro e w48 ⟨rfl,hb⟩;have n0_:=Aside0.mk (Kd.S_below qz19 hb);have n1_:=Aside0.mk (Kd.R_below qz17 hb);have n2_:=Aside0.mk (Kd.R_below qz16 hb);have n3_:=Aside0.mk (Kd.S_below qz23 hb);have n4_:=Aside0.mk (below_step qz4 hb);clear HO451 HO453 HO455 HO459 HB;have HO451:=n0_;have HO453:=n1_;have HO455:=n2_;have HO459:=n3_;have HB:=n4_;clear n0_ n1_ n2_ n3_ n4_;(try clear hb);(try clear hb2);(try clear hk);(try clear hi)))
   go_ret
   exact ⟨qz7,qz5⟩

end Go.Proofs.YtlaicnoikeieeaaDoor.P
