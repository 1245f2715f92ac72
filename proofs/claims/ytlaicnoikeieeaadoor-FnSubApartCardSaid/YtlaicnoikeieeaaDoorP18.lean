/- Contracts of functions of the program: each as a Lean function, and that its call does what that says; printed by cprint.py (this session) over print.py of the kit. Conditions: the hypotheses of each theorem. -/
import Derived.Test.YtlaicnoikeieeaaDoorVZ
import Derived.Test.YtlaicnoikeieeaaDoorP0
import Derived.Test.YtlaicnoikeieeaaDoorP6
import Derived.Test.YtlaicnoikeieeaaDoorP12
import Derived.Test.YtlaicnoikeieeaaDoorP13
import Derived.Test.YtlaicnoikeieeaaDoorP17
namespace Go.Proofs.YtlaicnoikeieeaaDoor.P
open Go.RowKit Go.Proofs.YtlaicnoikeieeaaDoorW.PrintWords Go.Proofs.YtlaicnoikeieeaaDoorW.PrintLast Go.Proofs.YtlaicnoikeieeaaDoorW.PrintMore
attribute [local go_sem] max2_int min2_int max_two min_two max_three min_three max_four min_four   -- for this text's walks alone
set_option linter.unusedVariables false
set_option linter.unusedSimpArgs false

/-! ### laws_FnSubApart: function 13 -/
def laws_FnSubApart.j0:Nat→Bool→Option (Bool)
 | 0,_=>none
 | k+1,x2=>some x2
def laws_FnSubApart.f (k:Nat) (l0:List Int):Option (Bool):=if (l0.length:Int) > 1048576 then (some true) else ((spec_DrawSubUnify.f k l0).bind fun bt439=>((impl_SubUnify.f k (([]:List (S30))) bt439.2.1 bt439.2.2).bind fun bt451=>((impl_SubUnify.f k bt439.1 bt439.2.1 bt439.2.2).bind fun bt455=>((spec_SubUnify.f k bt439.1 bt439.2.1 bt439.2.2).bind fun bt459=>(if bt455.2=bt459.2 then (if bt451.2=2 then (if bt455.2=1 then (laws_FnSubApart.j0 k false) else ((laws_caOk.f).bind fun t463=>(laws_FnSubApart.j0 k t463))) else (laws_FnSubApart.j0 k true)) else (some false))))))
set_option maxHeartbeats 8000000 in
set_option maxRecDepth 100000 in
theorem laws_FnSubApart.calls (k:Nat) (A0:Option Addr) (c0:Nat) (l0:List Int) (r:Bool) (w:World) (hr0:Kd.C (Kd.int .u8) w A0 l0.length l0) (hc0:l0.length≤c0) (h:laws_FnSubApart.f k l0=some r) :
  Calls Tryd.prog 13 #[.slice A0 l0.length c0] w fun e w'=>e = .returned (.bool r)∧Below w.heap.size w w':=by
 have HR0:=Aside0.mk hr0
 have HC0:=Aside0.mk hc0
 clear hr0 hc0
 have HB:=Aside0.mk (Below.refl w.heap.size w)
 have H:(if (l0.length:Int) > 1048576 then (some true) else ((spec_DrawSubUnify.f k l0).bind fun bt439=>((impl_SubUnify.f k (([]:List (S30))) bt439.2.1 bt439.2.2).bind fun bt451=>((impl_SubUnify.f k bt439.1 bt439.2.1 bt439.2.2).bind fun bt455=>((spec_SubUnify.f k bt439.1 bt439.2.1 bt439.2.2).bind fun bt459=>(if bt455.2=bt459.2 then (if bt451.2=2 then (if bt455.2=1 then (laws_FnSubApart.j0 k false) else ((laws_caOk.f).bind fun t463=>(laws_FnSubApart.j0 k t463))) else (laws_FnSubApart.j0 k true)) else (some false)))))))=some r:=h
 clear h
 by_cases c2:(l0.length:Int) > 1048576
 ·rw [if_pos c2] at H
  have c2b0:decide (1048576<(l0.length:Int))=true:=decide_eq_true c2
  have c2b1:decide (1048576<l0.length)=true:=decide_eq_true (by omega)
  clear c2
  obtain rfl:=Option.some.inj H
  go_enter Tryd.func13,Tryd.ntmps13
  go_wp2
  go_ret
  exact ⟨qz7,qz5⟩
 ·rw [if_neg c2] at H
  have c2b0:decide (1048576<(l0.length:Int))=false:=decide_eq_false c2
  have c2b1:decide (1048576<l0.length)=false:=decide_eq_false (by omega)
  clear c2
  replace H:=Option.bind_eq_some_iff.mp H
  obtain ⟨⟨t439,t440,t441⟩,A30,H⟩:=H
  try dsimp only at H
  have A3:=Aside0.mk A30
  clear A30
  obtain ⟨y448,hy448⟩:∃ y_:List (S30),y_=(([]:List (S30))):=⟨_,rfl⟩
  replace H:((impl_SubUnify.f k y448 t440 t441).bind fun bt451=>((impl_SubUnify.f k t439 t440 t441).bind fun bt455=>((spec_SubUnify.f k t439 t440 t441).bind fun bt459=>(if bt455.2=bt459.2 then (if bt451.2=2 then (if bt455.2=1 then (laws_FnSubApart.j0 k false) else ((laws_caOk.f).bind fun t463=>(laws_FnSubApart.j0 k t463))) else (laws_FnSubApart.j0 k true)) else (some false)))))=some r:=by first|(rw [hy448];exact H)|exact H
  have Ny448:=Aside0.mk hy448
  clear hy448
  replace H:=Option.bind_eq_some_iff.mp H
  obtain ⟨⟨t451,t452⟩,A40,H⟩:=H
  try dsimp only at H
  have A4:=Aside0.mk A40
  clear A40
  replace H:=Option.bind_eq_some_iff.mp H
  obtain ⟨⟨t455,t456⟩,A50,H⟩:=H
  try dsimp only at H
  have A5:=Aside0.mk A50
  clear A50
  replace H:=Option.bind_eq_some_iff.mp H
  obtain ⟨⟨t459,t460⟩,A60,H⟩:=H
  try dsimp only at H
  have A6:=Aside0.mk A60
  clear A60
  by_cases c7:t456=t460
  ·rw [if_pos c7] at H
   have c7b0:(t456 == t460)=true:=beq_iff_eq.mpr c7
   have c7b1:(t456 != t460)=false:=bne_eq_false_iff_eq.mpr c7
   clear c7
   have HC8:=Aside0.mk H
   clear H
   go_enter Tryd.func13,Tryd.ntmps13
   go_upto_region 9 with (first|(go_at_call 43;(with_reducible refine (spec_DrawSubUnify.calls k _ _ l0 t439 t440 t441 _ ?side1 ?side2 A3.out).mono ?_);(case side1=>exact qz61);(case side2=>exact HC0.out);rintro e w9 ⟨v442,v444,v446,rfl,ho0,ho1,ho2,hb⟩;have n0_:=Aside0.mk (Kd.S_lower ho0 (below_size qz4));have n1_:=Aside0.mk (Kd.R_lower ho1 (below_size qz4));have n2_:=Aside0.mk (Kd.R_lower ho2 (below_size qz4));have n3_:=Aside0.mk (below_step qz4 hb);clear HB;have HO443:=n0_;have HO445:=n1_;have HO447:=n2_;have HB:=n3_;clear n0_ n1_ n2_ n3_;(try clear hb);(try clear hb2);(try clear hk);(try clear hi);(try clear ho0);(try clear ho1);(try clear ho2))|((with_reducible refine gate_dst (N:=22) rfl ?_);refine Kd.S_lit k30 _ 30 ?hg (N:=22) ?hd (xs:=([]:List (S30))) (inner:=[]) (ok:=fun _=>True) (okp:=fun _=>True) ?hr ?hp (fun _ hk=>hk) trivial (Below.refl _ _) (Nat.le_refl _) (by simp) ?_;(case hd=>rfl);(case hg=>rfl);(case hr=>first|(go_simp;done)|(go_simp;rfl));(case hp=>exact (Reps.none _ _));intro v449 w10 ho11 hb hg_ hnew_;clear hg_ hnew_;(first|rw [← Ny448.out] at ho11|(simp only [Int.reduceToNat] at ho11;rw [← Ny448.out] at ho11));have n0_:=Aside0.mk (Kd.S_elder' qz22 (Kd.S_base ho11) hb);have n1_:=Aside0.mk (Kd.R_below qz24 hb);have n2_:=Aside0.mk (Kd.R_below qz23 hb);have n3_:=Aside0.mk (Kd.S_lower (Kd.S_new' (Kd.S_new' (Kd.S_new' ho11 (Kd.S_lt qz22)) (Kd.R_lt qz24)) (Kd.R_lt qz23)) (below_size qz4));have n4_:=Aside0.mk (below_step qz4 hb);clear HO443 HO445 HO447 HB;have HO443:=n0_;have HO445:=n1_;have HO447:=n2_;have HO450:=n3_;have HB:=n4_;clear n0_ n1_ n2_ n3_ n4_ hb ho11;obtain ⟨Ao12,co12,eo12⟩:=Kd.S_slice HO450.out;subst eo12;obtain ⟨Ao13,co13,eo13⟩:=Kd.R_slice HO445.out;subst eo13;obtain ⟨Ao14,co14,eo14⟩:=Kd.R_slice HO447.out;subst eo14)|(go_at_call 31;(with_reducible refine (impl_SubUnify.calls k _ _ y448 _ _ t440 _ _ t441 t451 t452 _ ?side1 ?side2 ?side3 ?side4 ?side5 ?side6 A4.out).mono ?_);(case side1=>exact qz72);(case side2=>exact (Kd.S_reads' HO450.out).2.1);(case side3=>exact qz35);(case side4=>exact (Kd.R_reads' HO445.out).2.1);(case side5=>exact qz34);(case side6=>exact (Kd.R_reads' HO447.out).2.1);rintro e w15 ⟨v453,rfl,ho0,hb⟩;have n0_:=Aside0.mk (Kd.S_elder' qz22 (Kd.S_base ho0) hb);have n1_:=Aside0.mk (Kd.R_below qz24 hb);have n2_:=Aside0.mk (Kd.R_below qz23 hb);have n3_:=Aside0.mk (Kd.S_elder' qz28 (Kd.S_base ho0) hb);have n4_:=Aside0.mk (Kd.S_lower (Kd.S_new' (Kd.S_new' (Kd.S_new' (Kd.S_new' ho0 (Kd.S_lt qz22)) (Kd.R_lt qz24)) (Kd.R_lt qz23)) (Kd.S_lt qz28)) (below_size qz4));have n5_:=Aside0.mk (below_step qz4 hb);clear HO443 HO445 HO447 HO450 HB;have HO443:=n0_;have HO445:=n1_;have HO447:=n2_;have HO450:=n3_;have HO454:=n4_;have HB:=n5_;clear n0_ n1_ n2_ n3_ n4_ n5_;(try clear hb);(try clear hb2);(try clear hk);(try clear hi);(try clear ho0);obtain ⟨Ao16,co16,eo16⟩:=Kd.S_slice HO443.out;subst eo16)|(go_at_call 31;(with_reducible refine (impl_SubUnify.calls k _ _ t439 _ _ t440 _ _ t441 t455 t456 _ ?side1 ?side2 ?side3 ?side4 ?side5 ?side6 A5.out).mono ?_);(case side1=>exact qz47);(case side2=>exact (Kd.S_reads' HO443.out).2.1);(case side3=>exact qz35);(case side4=>exact (Kd.R_reads' HO445.out).2.1);(case side5=>exact qz34);(case side6=>exact (Kd.R_reads' HO447.out).2.1);rintro e w17 ⟨v457,rfl,ho0,hb⟩;have n0_:=Aside0.mk (Kd.S_elder' qz22 (Kd.S_base ho0) hb);have n1_:=Aside0.mk (Kd.R_below qz24 hb);have n2_:=Aside0.mk (Kd.R_below qz23 hb);have n3_:=Aside0.mk (Kd.S_elder' qz28 (Kd.S_base ho0) hb);have n4_:=Aside0.mk (Kd.S_elder' qz36 (Kd.S_base ho0) hb);have n5_:=Aside0.mk (Kd.S_lower (Kd.S_new' (Kd.S_new' (Kd.S_new' (Kd.S_new' (Kd.S_new' ho0 (Kd.S_lt qz22)) (Kd.R_lt qz24)) (Kd.R_lt qz23)) (Kd.S_lt qz28)) (Kd.S_lt qz36)) (below_size qz4));have n6_:=Aside0.mk (below_step qz4 hb);clear HO443 HO445 HO447 HO450 HO454 HB;have HO443:=n0_;have HO445:=n1_;have HO447:=n2_;have HO450:=n3_;have HO454:=n4_;have HO458:=n5_;have HB:=n6_;clear n0_ n1_ n2_ n3_ n4_ n5_ n6_;(try clear hb);(try clear hb2);(try clear hk);(try clear hi);(try clear ho0))|(go_at_call 47;(with_reducible refine (spec_SubUnify.calls k _ _ t439 _ _ t440 _ _ t441 t459 t460 _ ?side1 ?side2 ?side3 ?side4 ?side5 ?side6 A6.out).mono ?_);(case side1=>exact qz47);(case side2=>exact (Kd.S_reads' HO443.out).2.1);(case side3=>exact qz35);(case side4=>exact (Kd.R_reads' HO445.out).2.1);(case side5=>exact qz34);(case side6=>exact (Kd.R_reads' HO447.out).2.1);rintro e w18 ⟨v461,rfl,ho0,hb⟩;have n0_:=Aside0.mk (Kd.S_elder' qz22 (Kd.S_base ho0) hb);have n1_:=Aside0.mk (Kd.R_below qz24 hb);have n2_:=Aside0.mk (Kd.R_below qz23 hb);have n3_:=Aside0.mk (Kd.S_elder' qz28 (Kd.S_base ho0) hb);have n4_:=Aside0.mk (Kd.S_elder' qz36 (Kd.S_base ho0) hb);have n5_:=Aside0.mk (Kd.S_elder' qz53 (Kd.S_base ho0) hb);have n6_:=Aside0.mk (Kd.S_lower (Kd.S_new' (Kd.S_new' (Kd.S_new' (Kd.S_new' (Kd.S_new' (Kd.S_new' ho0 (Kd.S_lt qz22)) (Kd.R_lt qz24)) (Kd.R_lt qz23)) (Kd.S_lt qz28)) (Kd.S_lt qz36)) (Kd.S_lt qz53)) (below_size qz4));have n7_:=Aside0.mk (below_step qz4 hb);clear HO443 HO445 HO447 HO450 HO454 HO458 HB;have HO443:=n0_;have HO445:=n1_;have HO447:=n2_;have HO450:=n3_;have HO454:=n4_;have HO458:=n5_;have HO462:=n6_;have HB:=n7_;clear n0_ n1_ n2_ n3_ n4_ n5_ n6_ n7_;(try clear hb);(try clear hb2);(try clear hk);(try clear hi);(try clear ho0)))
   (try simp only [Act.put,List.setIfInBounds_toArray,List.set_cons_zero,List.set_cons_succ])
   go_cut [2] (fun v2 wc=>∃ (kq:Nat) (x2_7:Bool),v2 = .bool x2_7∧Aside0 (laws_FnSubApart.j0 kq x2_7=some r)∧Aside0 (kq≤k)∧Aside0 (Below w.heap.size w wc))
   case first=>
    have H:=HC8.out
    clear HC8
    by_cases c19:t452=2
    ·rw [if_pos c19] at H
     have c19b0:(t452 == 2)=true:=beq_iff_eq.mpr c19
     have c19b1:(t452 != 2)=false:=bne_eq_false_iff_eq.mpr c19
     clear c19
     (first|rw [c19b0]|(simp only [i64_w,i32_w];rw [c19b0])|skip)
     by_cases c20:t456=1
     ·rw [if_pos c20] at H
      have c20b0:(t456 == 1)=true:=beq_iff_eq.mpr c20
      have c20b1:(t456 != 1)=false:=bne_eq_false_iff_eq.mpr c20
      clear c20
      have H':=Aside0.mk H
      clear H
      go_wp2
      go_meet
      case rel=>exact ⟨_,(false),qz9,H',⟨qz51⟩,⟨qz5⟩⟩
     ·rw [if_neg c20] at H
      have c20b0:(t456 == 1)=false:=beq_eq_false_iff_ne.mpr c20
      have c20b1:(t456 != 1)=true:=bne_iff_ne.mpr c20
      replace H:=Option.bind_eq_some_iff.mp H
      obtain ⟨t463,A210,H⟩:=H
      try dsimp only at H
      have A21:=Aside0.mk A210
      clear A210
      have H':=Aside0.mk H
      clear H
      go_wp2_with (first|(go_at_call 22;(with_reducible refine (laws_caOk.calls  t463 _ A21.out).mono ?_);rintro e w22 ⟨rfl,hb⟩;have n0_:=Aside0.mk (Kd.S_below qz22 hb);have n1_:=Aside0.mk (Kd.R_below qz24 hb);have n2_:=Aside0.mk (Kd.R_below qz23 hb);have n3_:=Aside0.mk (Kd.S_below qz28 hb);have n4_:=Aside0.mk (Kd.S_below qz36 hb);have n5_:=Aside0.mk (Kd.S_below qz53 hb);have n6_:=Aside0.mk (Kd.S_below (by (with_reducible repeat (first|apply Kd.S_alloc|apply Kd.S_drewN|apply Kd.S_drew));exact HO462.out) hb);have n7_:=Aside0.mk (below_step qz4 hb);clear HO443 HO445 HO447 HO450 HO454 HO458 HO462 HB;have HO443:=n0_;have HO445:=n1_;have HO447:=n2_;have HO450:=n3_;have HO454:=n4_;have HO458:=n5_;have HO462:=n6_;have HB:=n7_;clear n0_ n1_ n2_ n3_ n4_ n5_ n6_ n7_;(try clear hb);(try clear hb2);(try clear hk);(try clear hi)))
      go_meet
      case rel=>exact ⟨_,(t463),qz9,H',⟨qz51⟩,⟨qz5⟩⟩
    ·rw [if_neg c19] at H
     have c19b0:(t452 == 2)=false:=beq_eq_false_iff_ne.mpr c19
     have c19b1:(t452 != 2)=true:=bne_iff_ne.mpr c19
     (first|rw [c19b0]|(simp only [i64_w,i32_w];rw [c19b0])|skip)
     have H':=Aside0.mk H
     clear H
     go_wp2
     go_meet
     case rel=>exact ⟨_,(true),qz9,H',⟨qz51⟩,⟨qz5⟩⟩
   case rest=>
    clear HC8
    try clear c1
    try clear c2
    try clear c2b0
    try clear c2b1
    try clear p2
    try clear c3
    try clear c4
    try clear c7
    try clear c7b0
    try clear c7b1
    try clear c13
    try clear c19
    try clear c19b0
    try clear c19b1
    try clear c20
    try clear c20b0
    try clear c20b1
    obtain ⟨kq,x2_7,rfl,HA,HJ7,HB⟩:=hcut
    cases kq with
    | zero=>exact absurd HA.out (by simp [laws_FnSubApart.j0])
    | succ kj7=>
     have H:=HA.out
     clear HA
     simp only [laws_FnSubApart.j0] at H
     obtain rfl:=Option.some.inj H
     go_wp2
     go_ret
     exact ⟨qz7,qz5⟩
  ·rw [if_neg c7] at H
   have c7b0:(t456 == t460)=false:=beq_eq_false_iff_ne.mpr c7
   have c7b1:(t456 != t460)=true:=bne_iff_ne.mpr c7
   obtain rfl:=Option.some.inj H
   go_enter Tryd.func13,Tryd.ntmps13
   go_wp2_with (first|(go_at_call 43;(with_reducible refine (spec_DrawSubUnify.calls k _ _ l0 t439 t440 t441 _ ?side1 ?side2 A3.out).mono ?_);(case side1=>exact qz61);(case side2=>exact HC0.out);rintro e w23 ⟨v442,v444,v446,rfl,ho0,ho1,ho2,hb⟩;have n0_:=Aside0.mk (Kd.S_lower ho0 (below_size qz4));have n1_:=Aside0.mk (Kd.R_lower ho1 (below_size qz4));have n2_:=Aside0.mk (Kd.R_lower ho2 (below_size qz4));have n3_:=Aside0.mk (below_step qz4 hb);clear HB;have HO443:=n0_;have HO445:=n1_;have HO447:=n2_;have HB:=n3_;clear n0_ n1_ n2_ n3_;(try clear hb);(try clear hb2);(try clear hk);(try clear hi);(try clear ho0);(try clear ho1);(try clear ho2))|((with_reducible refine gate_dst (N:=22) rfl ?_);refine Kd.S_lit k30 _ 30 ?hg (N:=22) ?hd (xs:=([]:List (S30))) (inner:=[]) (ok:=fun _=>True) (okp:=fun _=>True) ?hr ?hp (fun _ hk=>hk) trivial (Below.refl _ _) (Nat.le_refl _) (by simp) ?_;(case hd=>rfl);(case hg=>rfl);(case hr=>first|(go_simp;done)|(go_simp;rfl));(case hp=>exact (Reps.none _ _));intro v449 w24 ho25 hb hg_ hnew_;clear hg_ hnew_;(first|rw [← Ny448.out] at ho25|(simp only [Int.reduceToNat] at ho25;rw [← Ny448.out] at ho25));have n0_:=Aside0.mk (Kd.S_elder' qz22 (Kd.S_base ho25) hb);have n1_:=Aside0.mk (Kd.R_below qz24 hb);have n2_:=Aside0.mk (Kd.R_below qz23 hb);have n3_:=Aside0.mk (Kd.S_lower (Kd.S_new' (Kd.S_new' (Kd.S_new' ho25 (Kd.S_lt qz22)) (Kd.R_lt qz24)) (Kd.R_lt qz23)) (below_size qz4));have n4_:=Aside0.mk (below_step qz4 hb);clear HO443 HO445 HO447 HB;have HO443:=n0_;have HO445:=n1_;have HO447:=n2_;have HO450:=n3_;have HB:=n4_;clear n0_ n1_ n2_ n3_ n4_ hb ho25;obtain ⟨Ao26,co26,eo26⟩:=Kd.S_slice HO450.out;subst eo26;obtain ⟨Ao27,co27,eo27⟩:=Kd.R_slice HO445.out;subst eo27;obtain ⟨Ao28,co28,eo28⟩:=Kd.R_slice HO447.out;subst eo28)|(go_at_call 31;(with_reducible refine (impl_SubUnify.calls k _ _ y448 _ _ t440 _ _ t441 t451 t452 _ ?side1 ?side2 ?side3 ?side4 ?side5 ?side6 A4.out).mono ?_);(case side1=>exact qz72);(case side2=>exact (Kd.S_reads' HO450.out).2.1);(case side3=>exact qz35);(case side4=>exact (Kd.R_reads' HO445.out).2.1);(case side5=>exact qz34);(case side6=>exact (Kd.R_reads' HO447.out).2.1);rintro e w29 ⟨v453,rfl,ho0,hb⟩;have n0_:=Aside0.mk (Kd.S_elder' qz22 (Kd.S_base ho0) hb);have n1_:=Aside0.mk (Kd.R_below qz24 hb);have n2_:=Aside0.mk (Kd.R_below qz23 hb);have n3_:=Aside0.mk (Kd.S_elder' qz28 (Kd.S_base ho0) hb);have n4_:=Aside0.mk (Kd.S_lower (Kd.S_new' (Kd.S_new' (Kd.S_new' (Kd.S_new' ho0 (Kd.S_lt qz22)) (Kd.R_lt qz24)) (Kd.R_lt qz23)) (Kd.S_lt qz28)) (below_size qz4));have n5_:=Aside0.mk (below_step qz4 hb);clear HO443 HO445 HO447 HO450 HB;have HO443:=n0_;have HO445:=n1_;have HO447:=n2_;have HO450:=n3_;have HO454:=n4_;have HB:=n5_;clear n0_ n1_ n2_ n3_ n4_ n5_;(try clear hb);(try clear hb2);(try clear hk);(try clear hi);(try clear ho0);obtain ⟨Ao30,co30,eo30⟩:=Kd.S_slice HO443.out;subst eo30)|(go_at_call 31;(with_reducible refine (impl_SubUnify.calls k _ _ t439 _ _ t440 _ _ t441 t455 t456 _ ?side1 ?side2 ?side3 ?side4 ?side5 ?side6 A5.out).mono ?_);(case side1=>exact qz47);(case side2=>exact (Kd.S_reads' HO443.out).2.1);(case side3=>exact qz35);(case side4=>exact (Kd.R_reads' HO445.out).2.1);(case side5=>exact qz34);(case side6=>exact (Kd.R_reads' HO447.out).2.1);rintro e w31 ⟨v457,rfl,ho0,hb⟩;have n0_:=Aside0.mk (Kd.S_elder' qz22 (Kd.S_base ho0) hb);have n1_:=Aside0.mk (Kd.R_below qz24 hb);have n2_:=Aside0.mk (Kd.R_below qz23 hb);have n3_:=Aside0.mk (Kd.S_elder' qz28 (Kd.S_base ho0) hb);have n4_:=Aside0.mk (Kd.S_elder' qz36 (Kd.S_base ho0) hb);have n5_:=Aside0.mk (Kd.S_lower (Kd.S_new' (Kd.S_new' (Kd.S_new' (Kd.S_new' (Kd.S_new' ho0 (Kd.S_lt qz22)) (Kd.R_lt qz24)) (Kd.R_lt qz23)) (Kd.S_lt qz28)) (Kd.S_lt qz36)) (below_size qz4));have n6_:=Aside0.mk (below_step qz4 hb);clear HO443 HO445 HO447 HO450 HO454 HB;have HO443:=n0_;have HO445:=n1_;have HO447:=n2_;have HO450:=n3_;have HO454:=n4_;have HO458:=n5_;have HB:=n6_;clear n0_ n1_ n2_ n3_ n4_ n5_ n6_;(try clear hb);(try clear hb2);(try clear hk);(try clear hi);(try clear ho0))|(go_at_call 47;(with_reducible refine (spec_SubUnify.calls k _ _ t439 _ _ t440 _ _ t441 t459 t460 _ ?side1 ?side2 ?side3 ?side4 ?side5 ?side6 A6.out).mono ?_);(case side1=>exact qz47);(case side2=>exact (Kd.S_reads' HO443.out).2.1);(case side3=>exact qz35);(case side4=>exact (Kd.R_reads' HO445.out).2.1);(case side5=>exact qz34);(case side6=>exact (Kd.R_reads' HO447.out).2.1);rintro e w32 ⟨v461,rfl,ho0,hb⟩;have n0_:=Aside0.mk (Kd.S_elder' qz22 (Kd.S_base ho0) hb);have n1_:=Aside0.mk (Kd.R_below qz24 hb);have n2_:=Aside0.mk (Kd.R_below qz23 hb);have n3_:=Aside0.mk (Kd.S_elder' qz28 (Kd.S_base ho0) hb);have n4_:=Aside0.mk (Kd.S_elder' qz36 (Kd.S_base ho0) hb);have n5_:=Aside0.mk (Kd.S_elder' qz53 (Kd.S_base ho0) hb);have n6_:=Aside0.mk (Kd.S_lower (Kd.S_new' (Kd.S_new' (Kd.S_new' (Kd.S_new' (Kd.S_new' (Kd.S_new' ho0 (Kd.S_lt qz22)) (Kd.R_lt qz24)) (Kd.R_lt qz23)) (Kd.S_lt qz28)) (Kd.S_lt qz36)) (Kd.S_lt qz53)) (below_size qz4));have n7_:=Aside0.mk (below_step qz4 hb);clear HO443 HO445 HO447 HO450 HO454 HO458 HB;have HO443:=n0_;have HO445:=n1_;have HO447:=n2_;have HO450:=n3_;have HO454:=n4_;have HO458:=n5_;have HO462:=n6_;have HB:=n7_;clear n0_ n1_ n2_ n3_ n4_ n5_ n6_ n7_;(try clear hb);(try clear hb2);(try clear hk);(try clear hi);(try clear ho0)))
   go_ret
   exact ⟨qz7,qz5⟩

end Go.Proofs.YtlaicnoikeieeaaDoor.P
