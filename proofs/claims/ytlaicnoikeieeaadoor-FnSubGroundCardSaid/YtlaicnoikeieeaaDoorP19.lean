/- Contracts of functions of the program: each as a Lean function, and that its call does what that says; printed by cprint.py (this session) over print.py of the kit. Conditions: the hypotheses of each theorem. -/
import Derived.Test.YtlaicnoikeieeaaDoorVZ
import Derived.Test.YtlaicnoikeieeaaDoorP0
import Derived.Test.YtlaicnoikeieeaaDoorP4
import Derived.Test.YtlaicnoikeieeaaDoorP8
import Derived.Test.YtlaicnoikeieeaaDoorP9
import Derived.Test.YtlaicnoikeieeaaDoorP13
import Derived.Test.YtlaicnoikeieeaaDoorP14
import Derived.Test.YtlaicnoikeieeaaDoorP18
namespace Go.Proofs.YtlaicnoikeieeaaDoor.P
open Go.RowKit Go.Proofs.YtlaicnoikeieeaaDoorW.PrintWords Go.Proofs.YtlaicnoikeieeaaDoorW.PrintLast Go.Proofs.YtlaicnoikeieeaaDoorW.PrintMore
attribute [local go_sem] max2_int min2_int max_two min_two max_three min_three max_four min_four   -- for this text's walks alone
set_option linter.unusedVariables false
set_option linter.unusedSimpArgs false

/-! ### laws_FnSubGround: function 14 -/
mutual
def laws_FnSubGround.j0:Nat→List (S46)→List (S46)→List (S30)→Int→Bool→Option (Bool)
 | 0,_,_,_,_,_=>none
 | k+1,x4,x5,x6,x7,x43=>if x43=true then (some false) else ((spec_TrmOk.f k x4).bind fun t476=>(if t476=true then ((spec_TrmOk.f k x5).bind fun t477=>(if t477=true then ((spec_TrmFree.f k x5).bind fun t478=>(laws_FnSubGround.j1 k x4 x5 x6 x7 (decide ((t478.length:Int) > 0)))) else (laws_FnSubGround.j1 k x4 x5 x6 x7 true))) else (laws_FnSubGround.j1 k x4 x5 x6 x7 true)))
def laws_FnSubGround.j1:Nat→List (S46)→List (S46)→List (S30)→Int→Bool→Option (Bool)
 | 0,_,_,_,_,_=>none
 | k+1,x4,x5,x6,x7,x57=>if x57=true then ((laws_caOk.f).bind fun t481=>(some t481)) else ((spec_TrmFree.f k x4).bind fun t482=>(if (t482.length:Int)=0 then ((laws_caTerm.f k x4 x5).bind fun t485=>(if ((x7 == 1) == t485)=true then (some ((x6.length:Int) == 0)) else (some false))) else (if x7=1 then ((impl_SubFull.f k x6 x4).bind fun bt486=>(if bt486.2=true then ((laws_caTerm.f k bt486.1 x5).bind fun t490=>(some t490)) else (some false))) else (if x7=2 then (some true) else (some (x7 == 3))))))
end
def laws_FnSubGround.f (k:Nat) (l0:List Int):Option (Bool):=if (l0.length:Int) > 1048576 then (some true) else ((spec_DrawSubUnify.f k l0).bind fun bt452=>((impl_SubUnify.f k (([]:List (S30))) bt452.2.1 bt452.2.2).bind fun bt464=>((spec_SubUnify.f k (([]:List (S30))) bt452.2.1 bt452.2.2).bind fun bt471=>((laws_caBinds.f k bt464.1 bt471.1).bind fun t475=>(if t475=true then (laws_FnSubGround.j0 k bt452.2.1 bt452.2.2 bt464.1 bt464.2 (bt464.2 != bt471.2)) else (laws_FnSubGround.j0 k bt452.2.1 bt452.2.2 bt464.1 bt464.2 true))))))
set_option maxHeartbeats 8000000 in
set_option maxRecDepth 100000 in
theorem laws_FnSubGround.calls (k:Nat) (A0:Option Addr) (c0:Nat) (l0:List Int) (r:Bool) (w:World) (hr0:Kd.C (Kd.int .u8) w A0 l0.length l0) (hc0:l0.length≤c0) (h:laws_FnSubGround.f k l0=some r) :
  Calls Tryd.prog 14 #[.slice A0 l0.length c0] w fun e w'=>e = .returned (.bool r)∧Below w.heap.size w w':=by
 have HR0:=Aside0.mk hr0
 have HC0:=Aside0.mk hc0
 clear hr0 hc0
 have HB:=Aside0.mk (Below.refl w.heap.size w)
 have H:(if (l0.length:Int) > 1048576 then (some true) else ((spec_DrawSubUnify.f k l0).bind fun bt452=>((impl_SubUnify.f k (([]:List (S30))) bt452.2.1 bt452.2.2).bind fun bt464=>((spec_SubUnify.f k (([]:List (S30))) bt452.2.1 bt452.2.2).bind fun bt471=>((laws_caBinds.f k bt464.1 bt471.1).bind fun t475=>(if t475=true then (laws_FnSubGround.j0 k bt452.2.1 bt452.2.2 bt464.1 bt464.2 (bt464.2 != bt471.2)) else (laws_FnSubGround.j0 k bt452.2.1 bt452.2.2 bt464.1 bt464.2 true)))))))=some r:=h
 clear h
 by_cases c2:(l0.length:Int) > 1048576
 ·rw [if_pos c2] at H
  have c2b0:decide (1048576<(l0.length:Int))=true:=decide_eq_true c2
  have c2b1:decide (1048576<l0.length)=true:=decide_eq_true (by omega)
  clear c2
  obtain rfl:=Option.some.inj H
  go_enter Tryd.func14,Tryd.ntmps14
  go_wp2
  go_ret
  exact ⟨qz7,qz5⟩
 ·rw [if_neg c2] at H
  have c2b0:decide (1048576<(l0.length:Int))=false:=decide_eq_false c2
  have c2b1:decide (1048576<l0.length)=false:=decide_eq_false (by omega)
  clear c2
  replace H:=Option.bind_eq_some_iff.mp H
  obtain ⟨⟨t452,t453,t454⟩,A30,H⟩:=H
  try dsimp only at H
  have A3:=Aside0.mk A30
  clear A30
  obtain ⟨y461,hy461⟩:∃ y_:List (S30),y_=(([]:List (S30))):=⟨_,rfl⟩
  replace H:((impl_SubUnify.f k y461 t453 t454).bind fun bt464=>((spec_SubUnify.f k (([]:List (S30))) t453 t454).bind fun bt471=>((laws_caBinds.f k bt464.1 bt471.1).bind fun t475=>(if t475=true then (laws_FnSubGround.j0 k t453 t454 bt464.1 bt464.2 (bt464.2 != bt471.2)) else (laws_FnSubGround.j0 k t453 t454 bt464.1 bt464.2 true)))))=some r:=by first|(rw [hy461];exact H)|exact H
  have Ny461:=Aside0.mk hy461
  clear hy461
  replace H:=Option.bind_eq_some_iff.mp H
  obtain ⟨⟨t464,t465⟩,A40,H⟩:=H
  try dsimp only at H
  have A4:=Aside0.mk A40
  clear A40
  obtain ⟨y468,hy468⟩:∃ y_:List (S30),y_=(([]:List (S30))):=⟨_,rfl⟩
  replace H:((spec_SubUnify.f k y468 t453 t454).bind fun bt471=>((laws_caBinds.f k t464 bt471.1).bind fun t475=>(if t475=true then (laws_FnSubGround.j0 k t453 t454 t464 t465 (t465 != bt471.2)) else (laws_FnSubGround.j0 k t453 t454 t464 t465 true))))=some r:=by first|(rw [hy468];exact H)|exact H
  have Ny468:=Aside0.mk hy468
  clear hy468
  replace H:=Option.bind_eq_some_iff.mp H
  obtain ⟨⟨t471,t472⟩,A50,H⟩:=H
  try dsimp only at H
  have A5:=Aside0.mk A50
  clear A50
  have HC6:=Aside0.mk H
  clear H
  go_enter Tryd.func14,Tryd.ntmps14
  go_upto_region 6 with (first|(go_at_call 43;(with_reducible refine (spec_DrawSubUnify.calls k _ _ l0 t452 t453 t454 _ ?side1 ?side2 A3.out).mono ?_);(case side1=>exact qz47);(case side2=>exact HC0.out);rintro e w7 ⟨v455,v457,v459,rfl,ho0,ho1,ho2,hb⟩;have n0_:=Aside0.mk (Kd.S_lower ho0 (below_size qz4));have n1_:=Aside0.mk (Kd.R_lower ho1 (below_size qz4));have n2_:=Aside0.mk (Kd.R_lower ho2 (below_size qz4));have n3_:=Aside0.mk (below_step qz4 hb);clear HB;have HO456:=n0_;have HO458:=n1_;have HO460:=n2_;have HB:=n3_;clear n0_ n1_ n2_ n3_;(try clear hb);(try clear hb2);(try clear hk);(try clear hi);(try clear ho0);(try clear ho1);(try clear ho2))|((with_reducible refine gate_dst (N:=22) rfl ?_);(try (refine gate_guard (by rfl) ?_;dsimp only));refine Kd.S_lit k30 _ 30 ?hg (N:=22) ?hd (xs:=([]:List (S30))) (inner:=[]) (ok:=fun _=>True) (okp:=fun _=>True) ?hr ?hp (fun _ hk=>hk) trivial (Below.refl _ _) (Nat.le_refl _) (by simp) ?_;(case hd=>rfl);(case hg=>rfl);(case hr=>first|(go_simp;done)|(go_simp;rfl));(case hp=>exact (Reps.none _ _));intro v462 w8 ho9 hb hg_ hnew_;clear hg_ hnew_;(first|rw [← Ny461.out] at ho9|(simp only [Int.reduceToNat] at ho9;rw [← Ny461.out] at ho9));have n0_:=Aside0.mk (Kd.S_below qz61 hb);have n1_:=Aside0.mk (Kd.R_below qz50 hb);have n2_:=Aside0.mk (Kd.R_below qz49 hb);have n3_:=Aside0.mk (Kd.S_lower ho9 (below_size qz4));have n4_:=Aside0.mk (below_step qz4 hb);clear HO456 HO458 HO460 HB;have HO456:=n0_;have HO458:=n1_;have HO460:=n2_;have HO463:=n3_;have HB:=n4_;clear n0_ n1_ n2_ n3_ n4_ hb ho9;obtain ⟨Ao10,co10,eo10⟩:=Kd.S_slice HO463.out;subst eo10;obtain ⟨Ao11,co11,eo11⟩:=Kd.R_slice HO458.out;subst eo11;obtain ⟨Ao12,co12,eo12⟩:=Kd.R_slice HO460.out;subst eo12)|(go_at_call 31;(with_reducible refine (impl_SubUnify.calls k _ _ y461 _ _ t453 _ _ t454 t464 t465 _ ?side1 ?side2 ?side3 ?side4 ?side5 ?side6 A4.out).mono ?_);(case side1=>repeat (first|exact (Kd.S_reads' HO463.out).2.2|(with_reducible refine Kd.C_alloc ?_ _)|(with_reducible refine Kd.C_drewN ?_ _)|(with_reducible refine Kd.C_drew ?_)));(case side2=>exact (Kd.S_reads' HO463.out).2.1);(case side3=>exact qz79);(case side4=>exact (Kd.R_reads' HO458.out).2.1);(case side5=>exact qz78);(case side6=>exact (Kd.R_reads' HO460.out).2.1);rintro e w13 ⟨v466,rfl,ho0,hb⟩;have n0_:=Aside0.mk (Kd.S_below qz61 hb);have n1_:=Aside0.mk (Kd.R_below qz50 hb);have n2_:=Aside0.mk (Kd.R_below qz49 hb);have n3_:=Aside0.mk (Kd.S_below qz68 hb);have n4_:=Aside0.mk (Kd.S_lower ho0 (below_size qz4));have n5_:=Aside0.mk (below_step qz4 hb);clear HO456 HO458 HO460 HO463 HB;have HO456:=n0_;have HO458:=n1_;have HO460:=n2_;have HO463:=n3_;have HO467:=n4_;have HB:=n5_;clear n0_ n1_ n2_ n3_ n4_ n5_;(try clear hb);(try clear hb2);(try clear hk);(try clear hi);(try clear ho0))|((with_reducible refine gate_dst (N:=29) rfl ?_);(try (refine gate_guard (by rfl) ?_;dsimp only));refine Kd.S_lit k30 _ 30 ?hg (N:=29) ?hd (xs:=([]:List (S30))) (inner:=[]) (ok:=fun _=>True) (okp:=fun _=>True) ?hr ?hp (fun _ hk=>hk) trivial (Below.refl _ _) (Nat.le_refl _) (by simp) ?_;(case hd=>rfl);(case hg=>rfl);(case hr=>first|(go_simp;done)|(go_simp;rfl));(case hp=>exact (Reps.none _ _));intro v469 w14 ho15 hb hg_ hnew_;clear hg_ hnew_;(first|rw [← Ny468.out] at ho15|(simp only [Int.reduceToNat] at ho15;rw [← Ny468.out] at ho15));have n0_:=Aside0.mk (Kd.S_below qz61 hb);have n1_:=Aside0.mk (Kd.R_below qz50 hb);have n2_:=Aside0.mk (Kd.R_below qz49 hb);have n3_:=Aside0.mk (Kd.S_below qz68 hb);have n4_:=Aside0.mk (Kd.S_below qz60 hb);have n5_:=Aside0.mk (Kd.S_lower ho15 (below_size qz4));have n6_:=Aside0.mk (below_step qz4 hb);clear HO456 HO458 HO460 HO463 HO467 HB;have HO456:=n0_;have HO458:=n1_;have HO460:=n2_;have HO463:=n3_;have HO467:=n4_;have HO470:=n5_;have HB:=n6_;clear n0_ n1_ n2_ n3_ n4_ n5_ n6_ hb ho15;obtain ⟨Ao16,co16,eo16⟩:=Kd.S_slice HO470.out;subst eo16)|(go_at_call 47;(with_reducible refine (spec_SubUnify.calls k _ _ y468 _ _ t453 _ _ t454 t471 t472 _ ?side1 ?side2 ?side3 ?side4 ?side5 ?side6 A5.out).mono ?_);(case side1=>repeat (first|exact (Kd.S_reads' HO470.out).2.2|(with_reducible refine Kd.C_alloc ?_ _)|(with_reducible refine Kd.C_drewN ?_ _)|(with_reducible refine Kd.C_drew ?_)));(case side2=>exact (Kd.S_reads' HO470.out).2.1);(case side3=>exact qz79);(case side4=>exact (Kd.R_reads' HO458.out).2.1);(case side5=>exact qz78);(case side6=>exact (Kd.R_reads' HO460.out).2.1);rintro e w17 ⟨v473,rfl,ho0,hb⟩;have n0_:=Aside0.mk (Kd.S_below qz61 hb);have n1_:=Aside0.mk (Kd.R_below qz50 hb);have n2_:=Aside0.mk (Kd.R_below qz49 hb);have n3_:=Aside0.mk (Kd.S_below qz68 hb);have n4_:=Aside0.mk (Kd.S_below qz60 hb);have n5_:=Aside0.mk (Kd.S_below (by (with_reducible repeat (first|apply Kd.S_alloc|apply Kd.S_drewN|apply Kd.S_drew));exact HO470.out) hb);have n6_:=Aside0.mk (Kd.S_lower ho0 (below_size qz4));have n7_:=Aside0.mk (below_step qz4 hb);clear HO456 HO458 HO460 HO463 HO467 HO470 HB;have HO456:=n0_;have HO458:=n1_;have HO460:=n2_;have HO463:=n3_;have HO467:=n4_;have HO470:=n5_;have HO474:=n6_;have HB:=n7_;clear n0_ n1_ n2_ n3_ n4_ n5_ n6_ n7_;(try clear hb);(try clear hb2);(try clear hk);(try clear hi);(try clear ho0)))
  (try simp only [Act.put,List.setIfInBounds_toArray,List.set_cons_zero,List.set_cons_succ])
  go_cut [43] (fun v43 wc=>∃ (kq:Nat) (x43_5:Bool),v43 = .bool x43_5∧Aside0 (laws_FnSubGround.j0 kq t453 t454 t464 t465 x43_5=some r)∧Aside0 (kq≤k)∧Aside0 (Kd.R k46 46 wc w.heap.size (fun _=>True) (.slice Ao11 t453.length co11) t453)∧Aside0 (Kd.R k46 46 wc w.heap.size (fun _=>True) (.slice Ao12 t454.length co12) t454)∧Aside0 (Kd.S k30 30 wc w.heap.size (fun _=>True) v466 t464)∧Aside0 (Below w.heap.size w wc))
  case first=>
   have H:=HC6.out
   clear HC6
   replace H:=Option.bind_eq_some_iff.mp H
   obtain ⟨t475,A180,H⟩:=H
   try dsimp only at H
   have A18:=Aside0.mk A180
   clear A180
   by_cases c19:t475=true
   ·subst c19
    have H1:(laws_FnSubGround.j0 k t453 t454 t464 t465 (t465 != t472))=some r:=qz35
    clear H
    have H:=H1
    clear H1
    have H':=Aside0.mk H
    clear H
    obtain ⟨Ao20,co20,eo20⟩:=Kd.S_slice HO467.out
    subst eo20
    obtain ⟨Ao21,co21,eo21⟩:=Kd.S_slice HO474.out
    subst eo21
    go_wp2_with (first|(go_at_call 44;(with_reducible refine (laws_caBinds.calls k _ _ t464 _ _ t471 true _ ?side1 ?side2 ?side3 ?side4 A18.out).mono ?_);(case side1=>exact qz77);(case side2=>exact (Kd.S_reads' HO467.out).2.1);(case side3=>exact qz76);(case side4=>exact (Kd.S_reads' HO474.out).2.1);rintro e w' ⟨rfl,⟨nd,rfl⟩⟩))
    go_meet
    case rel=>exact ⟨_,((t465 != t472)),qz9,H',⟨qz54⟩,⟨qz50⟩,⟨qz49⟩,⟨qz60⟩,⟨qz5⟩⟩
   ·replace c19:=Bool.eq_false_iff.mpr c19
    subst c19
    have H1:(laws_FnSubGround.j0 k t453 t454 t464 t465 true)=some r:=qz24
    clear H
    have H:=H1
    clear H1
    have H':=Aside0.mk H
    clear H
    obtain ⟨Ao22,co22,eo22⟩:=Kd.S_slice HO467.out
    subst eo22
    obtain ⟨Ao23,co23,eo23⟩:=Kd.S_slice HO474.out
    subst eo23
    go_wp2_with (first|(go_at_call 44;(with_reducible refine (laws_caBinds.calls k _ _ t464 _ _ t471 false _ ?side1 ?side2 ?side3 ?side4 A18.out).mono ?_);(case side1=>exact qz77);(case side2=>exact (Kd.S_reads' HO467.out).2.1);(case side3=>exact qz76);(case side4=>exact (Kd.S_reads' HO474.out).2.1);rintro e w' ⟨rfl,⟨nd,rfl⟩⟩))
    go_meet
    case rel=>exact ⟨_,(true),qz9,H',⟨qz54⟩,⟨qz50⟩,⟨qz49⟩,⟨qz60⟩,⟨qz5⟩⟩
  case rest=>
   clear HC6
   try clear c1
   try clear c2
   try clear c2b0
   try clear c2b1
   try clear p2
   try clear c3
   try clear c4
   try clear c14
   try clear c19
   obtain ⟨kq,x43_5,rfl,HA,HJ5,HO_4,HO_5,HO_6,HB⟩:=hcut
   cases kq with
   | zero=>exact absurd HA.out (by simp [laws_FnSubGround.j0])
   | succ kj5=>
    have H:=HA.out
    clear HA
    simp only [laws_FnSubGround.j0] at H
    by_cases c24:x43_5=true
    ·subst c24
     have H1:(some false)=some r:=qz35
     clear H
     have H:=H1
     clear H1
     obtain rfl:=Option.some.inj H
     go_wp2
     go_ret
     exact ⟨qz7,qz5⟩
    ·replace c24:=Bool.eq_false_iff.mpr c24
     subst c24
     have H1:((spec_TrmOk.f kj5 t453).bind fun t476=>(if t476=true then ((spec_TrmOk.f kj5 t454).bind fun t477=>(if t477=true then ((spec_TrmFree.f kj5 t454).bind fun t478=>(laws_FnSubGround.j1 kj5 t453 t454 t464 t465 (decide ((t478.length:Int) > 0)))) else (laws_FnSubGround.j1 kj5 t453 t454 t464 t465 true))) else (laws_FnSubGround.j1 kj5 t453 t454 t464 t465 true)))=some r:=qz24
     clear H
     have H:=H1
     clear H1
     have HC25:=Aside0.mk H
     clear H
     go_upto_region 8 with (fail)
     go_cut [57] (fun v57 wc=>∃ (kq:Nat) (x57_24:Bool),v57 = .bool x57_24∧Aside0 (laws_FnSubGround.j1 kq t453 t454 t464 t465 x57_24=some r)∧Aside0 (kq≤kj5)∧Aside0 (Kd.R k46 46 wc w.heap.size (fun _=>True) (.slice Ao11 t453.length co11) t453)∧Aside0 (Kd.R k46 46 wc w.heap.size (fun _=>True) (.slice Ao12 t454.length co12) t454)∧Aside0 (Kd.S k30 30 wc w.heap.size (fun _=>True) v466 t464)∧Aside0 (Below w.heap.size w wc))
     case first=>
      have H:=HC25.out
      clear HC25
      replace H:=Option.bind_eq_some_iff.mp H
      obtain ⟨t476,A260,H⟩:=H
      try dsimp only at H
      have A26:=Aside0.mk A260
      clear A260
      by_cases c27:t476=true
      ·subst c27
       have H1:((spec_TrmOk.f kj5 t454).bind fun t477=>(if t477=true then ((spec_TrmFree.f kj5 t454).bind fun t478=>(laws_FnSubGround.j1 kj5 t453 t454 t464 t465 (decide ((t478.length:Int) > 0)))) else (laws_FnSubGround.j1 kj5 t453 t454 t464 t465 true)))=some r:=qz35
       clear H
       have H:=H1
       clear H1
       replace H:=Option.bind_eq_some_iff.mp H
       obtain ⟨t477,A280,H⟩:=H
       try dsimp only at H
       have A28:=Aside0.mk A280
       clear A280
       by_cases c29:t477=true
       ·subst c29
        have H1:((spec_TrmFree.f kj5 t454).bind fun t478=>(laws_FnSubGround.j1 kj5 t453 t454 t464 t465 (decide ((t478.length:Int) > 0))))=some r:=qz35
        clear H
        have H:=H1
        clear H1
        replace H:=Option.bind_eq_some_iff.mp H
        obtain ⟨t478,A300,H⟩:=H
        try dsimp only at H
        have A30:=Aside0.mk A300
        clear A300
        have H':=Aside0.mk H
        clear H
        go_wp2_with (first|(go_at_call 30;(with_reducible refine (spec_TrmOk.calls kj5 _ _ t453 true _ ?side1 ?side2 A26.out).mono ?_);(case side1=>exact qz20);(case side2=>exact (Kd.R_reads' HO_4.out).2.1);rintro e w31 ⟨rfl,hb⟩;have n0_:=Aside0.mk (Kd.R_below qz26 hb);have n1_:=Aside0.mk (Kd.R_below qz13 hb);have n2_:=Aside0.mk (Kd.S_below qz25 hb);have n3_:=Aside0.mk (below_step qz4 hb);clear HO_4 HO_5 HO_6 HB;have HO_4:=n0_;have HO_5:=n1_;have HO_6:=n2_;have HB:=n3_;clear n0_ n1_ n2_ n3_;(try clear hb);(try clear hb2);(try clear hk);(try clear hi))|(go_at_call 30;(with_reducible refine (spec_TrmOk.calls kj5 _ _ t454 true _ ?side1 ?side2 A28.out).mono ?_);(case side1=>exact qz29);(case side2=>exact (Kd.R_reads' HO_5.out).2.1);rintro e w32 ⟨rfl,hb⟩;have n0_:=Aside0.mk (Kd.R_below qz26 hb);have n1_:=Aside0.mk (Kd.R_below qz13 hb);have n2_:=Aside0.mk (Kd.S_below qz25 hb);have n3_:=Aside0.mk (below_step qz4 hb);clear HO_4 HO_5 HO_6 HB;have HO_4:=n0_;have HO_5:=n1_;have HO_6:=n2_;have HB:=n3_;clear n0_ n1_ n2_ n3_;(try clear hb);(try clear hb2);(try clear hk);(try clear hi))|(go_at_call 48;(with_reducible refine (spec_TrmFree.calls kj5 _ _ t454 t478 _ ?side1 ?side2 A30.out).mono ?_);(case side1=>exact qz29);(case side2=>exact (Kd.R_reads' HO_5.out).2.1);rintro e w33 ⟨v479,rfl,ho0,hb⟩;have n0_:=Aside0.mk (Kd.R_below qz26 hb);have n1_:=Aside0.mk (Kd.R_below qz13 hb);have n2_:=Aside0.mk (Kd.S_below qz25 hb);have n3_:=Aside0.mk (Kd.R_lower ho0 (below_size qz4));have n4_:=Aside0.mk (below_step qz4 hb);clear HO_4 HO_5 HO_6 HB;have HO_4:=n0_;have HO_5:=n1_;have HO_6:=n2_;have HO480:=n3_;have HB:=n4_;clear n0_ n1_ n2_ n3_ n4_;(try clear hb);(try clear hb2);(try clear hk);(try clear hi);(try clear ho0);obtain ⟨Ao34,co34,eo34⟩:=Kd.R_slice HO480.out;subst eo34))
        go_meet
        case rel=>exact ⟨_,(decide ((t478.length:Int) > 0)),qz9,H',⟨by have:=HJ5.out;first|omega|exact Nat.le_refl _⟩,⟨qz26⟩,⟨qz13⟩,⟨qz25⟩,⟨qz5⟩⟩
       ·replace c29:=Bool.eq_false_iff.mpr c29
        subst c29
        have H1:(laws_FnSubGround.j1 kj5 t453 t454 t464 t465 true)=some r:=qz24
        clear H
        have H:=H1
        clear H1
        have H':=Aside0.mk H
        clear H
        go_wp2_with (first|(go_at_call 30;(with_reducible refine (spec_TrmOk.calls kj5 _ _ t453 true _ ?side1 ?side2 A26.out).mono ?_);(case side1=>exact qz20);(case side2=>exact (Kd.R_reads' HO_4.out).2.1);rintro e w35 ⟨rfl,hb⟩;have n0_:=Aside0.mk (Kd.R_below qz26 hb);have n1_:=Aside0.mk (Kd.R_below qz13 hb);have n2_:=Aside0.mk (Kd.S_below qz25 hb);have n3_:=Aside0.mk (below_step qz4 hb);clear HO_4 HO_5 HO_6 HB;have HO_4:=n0_;have HO_5:=n1_;have HO_6:=n2_;have HB:=n3_;clear n0_ n1_ n2_ n3_;(try clear hb);(try clear hb2);(try clear hk);(try clear hi))|(go_at_call 30;(with_reducible refine (spec_TrmOk.calls kj5 _ _ t454 false _ ?side1 ?side2 A28.out).mono ?_);(case side1=>exact qz29);(case side2=>exact (Kd.R_reads' HO_5.out).2.1);rintro e w36 ⟨rfl,hb⟩;have n0_:=Aside0.mk (Kd.R_below qz26 hb);have n1_:=Aside0.mk (Kd.R_below qz13 hb);have n2_:=Aside0.mk (Kd.S_below qz25 hb);have n3_:=Aside0.mk (below_step qz4 hb);clear HO_4 HO_5 HO_6 HB;have HO_4:=n0_;have HO_5:=n1_;have HO_6:=n2_;have HB:=n3_;clear n0_ n1_ n2_ n3_;(try clear hb);(try clear hb2);(try clear hk);(try clear hi)))
        go_meet
        case rel=>exact ⟨_,(true),qz9,H',⟨by have:=HJ5.out;first|omega|exact Nat.le_refl _⟩,⟨qz26⟩,⟨qz13⟩,⟨qz25⟩,⟨qz5⟩⟩
      ·replace c27:=Bool.eq_false_iff.mpr c27
       subst c27
       have H1:(laws_FnSubGround.j1 kj5 t453 t454 t464 t465 true)=some r:=qz24
       clear H
       have H:=H1
       clear H1
       have H':=Aside0.mk H
       clear H
       go_wp2_with (first|(go_at_call 30;(with_reducible refine (spec_TrmOk.calls kj5 _ _ t453 false _ ?side1 ?side2 A26.out).mono ?_);(case side1=>exact qz20);(case side2=>exact (Kd.R_reads' HO_4.out).2.1);rintro e w37 ⟨rfl,hb⟩;have n0_:=Aside0.mk (Kd.R_below qz26 hb);have n1_:=Aside0.mk (Kd.R_below qz13 hb);have n2_:=Aside0.mk (Kd.S_below qz25 hb);have n3_:=Aside0.mk (below_step qz4 hb);clear HO_4 HO_5 HO_6 HB;have HO_4:=n0_;have HO_5:=n1_;have HO_6:=n2_;have HB:=n3_;clear n0_ n1_ n2_ n3_;(try clear hb);(try clear hb2);(try clear hk);(try clear hi)))
       go_meet
       case rel=>exact ⟨_,(true),qz9,H',⟨by have:=HJ5.out;first|omega|exact Nat.le_refl _⟩,⟨qz26⟩,⟨qz13⟩,⟨qz25⟩,⟨qz5⟩⟩
     case rest=>
      clear HC25
      try clear c1
      try clear c2
      try clear c2b0
      try clear c2b1
      try clear p2
      try clear c3
      try clear c4
      try clear c14
      try clear c19
      try clear c24
      try clear c27
      try clear c29
      try clear c30
      try clear c31
      try clear p2
      obtain ⟨kq,x57_24,rfl,HA,HJ24,HO_4,HO_5,HO_6,HB⟩:=hcut
      cases kq with
      | zero=>exact absurd HA.out (by simp [laws_FnSubGround.j1])
      | succ kj24=>
       have H:=HA.out
       clear HA
       simp only [laws_FnSubGround.j1] at H
       by_cases c38:x57_24=true
       ·subst c38
        have H1:((laws_caOk.f).bind fun t481=>(some t481))=some r:=qz35
        clear H
        have H:=H1
        clear H1
        replace H:=Option.bind_eq_some_iff.mp H
        obtain ⟨t481,A390,H⟩:=H
        try dsimp only at H
        have A39:=Aside0.mk A390
        clear A390
        obtain rfl:=Option.some.inj H
        go_wp2_with (first|(go_at_call 22;(with_reducible refine (laws_caOk.calls  t481 _ A39.out).mono ?_);rintro e w40 ⟨rfl,hb⟩;have n0_:=Aside0.mk (Kd.R_below qz26 hb);have n1_:=Aside0.mk (Kd.R_below qz13 hb);have n2_:=Aside0.mk (Kd.S_below qz25 hb);have n3_:=Aside0.mk (below_step qz4 hb);clear HO_4 HO_5 HO_6 HB;have HO_4:=n0_;have HO_5:=n1_;have HO_6:=n2_;have HB:=n3_;clear n0_ n1_ n2_ n3_;(try clear hb);(try clear hb2);(try clear hk);(try clear hi)))
        go_ret
        exact ⟨qz7,qz5⟩
       ·replace c38:=Bool.eq_false_iff.mpr c38
        subst c38
        have H1:((spec_TrmFree.f kj24 t453).bind fun t482=>(if (t482.length:Int)=0 then ((laws_caTerm.f kj24 t453 t454).bind fun t485=>(if ((t465 == 1) == t485)=true then (some ((t464.length:Int) == 0)) else (some false))) else (if t465=1 then ((impl_SubFull.f kj24 t464 t453).bind fun bt486=>(if bt486.2=true then ((laws_caTerm.f kj24 bt486.1 t454).bind fun t490=>(some t490)) else (some false))) else (if t465=2 then (some true) else (some (t465 == 3))))))=some r:=qz24
        clear H
        have H:=H1
        clear H1
        replace H:=Option.bind_eq_some_iff.mp H
        obtain ⟨t482,A410,H⟩:=H
        try dsimp only at H
        have A41:=Aside0.mk A410
        clear A410
        by_cases c42:(t482.length:Int)=0
        ·rw [if_pos c42] at H
         have c42b0:((t482.length:Int) == 0)=true:=beq_iff_eq.mpr c42
         have c42b1:((t482.length:Int) != 0)=false:=bne_eq_false_iff_eq.mpr c42
         clear c42
         replace H:=Option.bind_eq_some_iff.mp H
         obtain ⟨t485,A430,H⟩:=H
         try dsimp only at H
         have A43:=Aside0.mk A430
         clear A430
         by_cases c44:((t465 == 1) == t485)=true
         ·rw [if_pos c44] at H
          have c44b0:((t465 == 1) == t485)=true:=c44
          (try (have c44b1:decide ((t465 == 1)=t485)=true:=by simpa using c44))
          (try (have c44b2:((t465 == 1) == t485)=true:=by simpa using c44))
          clear c44
          obtain rfl:=Option.some.inj H
          go_wp2_with (first|(go_at_call 48;(with_reducible refine (spec_TrmFree.calls kj24 _ _ t453 t482 _ ?side1 ?side2 A41.out).mono ?_);(case side1=>exact qz20);(case side2=>exact (Kd.R_reads' HO_4.out).2.1);rintro e w45 ⟨v483,rfl,ho0,hb⟩;have n0_:=Aside0.mk (Kd.R_below qz26 hb);have n1_:=Aside0.mk (Kd.R_below qz13 hb);have n2_:=Aside0.mk (Kd.S_below qz25 hb);have n3_:=Aside0.mk (Kd.R_lower ho0 (below_size qz4));have n4_:=Aside0.mk (below_step qz4 hb);clear HO_4 HO_5 HO_6 HB;have HO_4:=n0_;have HO_5:=n1_;have HO_6:=n2_;have HO484:=n3_;have HB:=n4_;clear n0_ n1_ n2_ n3_ n4_;(try clear hb);(try clear hb2);(try clear hk);(try clear hi);(try clear ho0);obtain ⟨Ao46,co46,eo46⟩:=Kd.R_slice HO484.out;subst eo46)|(go_at_call 20;(with_reducible refine (laws_caTerm.calls kj24 _ _ t453 _ _ t454 t485 _ ?side1 ?side2 ?side3 ?side4 A43.out).mono ?_);(case side1=>exact qz20);(case side2=>exact (Kd.R_reads' HO_4.out).2.1);(case side3=>exact qz29);(case side4=>exact (Kd.R_reads' HO_5.out).2.1);rintro e w' ⟨rfl,⟨nd,rfl⟩⟩;obtain ⟨Ao47,co47,eo47⟩:=Kd.S_slice HO_6.out;subst eo47))
          go_ret
          exact ⟨qz7,qz5⟩
         ·rw [if_neg c44] at H
          have c44b0:((t465 == 1) == t485)=false:=by simpa using c44
          (try (have c44b1:decide ((t465 == 1)=t485)=false:=by simpa using c44))
          (try (have c44b2:((t465 == 1) == t485)=false:=by simpa using c44))
          (try (have c44b3:¬ ((t465 == 1)=t485):=by simpa using c44))
          clear c44
          obtain rfl:=Option.some.inj H
          go_wp2_with (first|(go_at_call 48;(with_reducible refine (spec_TrmFree.calls kj24 _ _ t453 t482 _ ?side1 ?side2 A41.out).mono ?_);(case side1=>exact qz20);(case side2=>exact (Kd.R_reads' HO_4.out).2.1);rintro e w48 ⟨v483,rfl,ho0,hb⟩;have n0_:=Aside0.mk (Kd.R_below qz26 hb);have n1_:=Aside0.mk (Kd.R_below qz13 hb);have n2_:=Aside0.mk (Kd.S_below qz25 hb);have n3_:=Aside0.mk (Kd.R_lower ho0 (below_size qz4));have n4_:=Aside0.mk (below_step qz4 hb);clear HO_4 HO_5 HO_6 HB;have HO_4:=n0_;have HO_5:=n1_;have HO_6:=n2_;have HO484:=n3_;have HB:=n4_;clear n0_ n1_ n2_ n3_ n4_;(try clear hb);(try clear hb2);(try clear hk);(try clear hi);(try clear ho0);obtain ⟨Ao49,co49,eo49⟩:=Kd.R_slice HO484.out;subst eo49)|(go_at_call 20;(with_reducible refine (laws_caTerm.calls kj24 _ _ t453 _ _ t454 t485 _ ?side1 ?side2 ?side3 ?side4 A43.out).mono ?_);(case side1=>exact qz20);(case side2=>exact (Kd.R_reads' HO_4.out).2.1);(case side3=>exact qz29);(case side4=>exact (Kd.R_reads' HO_5.out).2.1);rintro e w' ⟨rfl,⟨nd,rfl⟩⟩))
          go_ret
          exact ⟨qz7,qz5⟩
        ·rw [if_neg c42] at H
         have c42b0:((t482.length:Int) == 0)=false:=beq_eq_false_iff_ne.mpr c42
         have c42b1:((t482.length:Int) != 0)=true:=bne_iff_ne.mpr c42
         have c42b2:¬ (t482=[]):=fun h_=>c42 (by rw [h_];rfl)
         by_cases c50:t465=1
         ·rw [if_pos c50] at H
          have c50b0:(t465 == 1)=true:=beq_iff_eq.mpr c50
          have c50b1:(t465 != 1)=false:=bne_eq_false_iff_eq.mpr c50
          clear c50
          replace H:=Option.bind_eq_some_iff.mp H
          obtain ⟨⟨t486,t487⟩,A510,H⟩:=H
          try dsimp only at H
          have A51:=Aside0.mk A510
          clear A510
          by_cases c52:t487=true
          ·subst c52
           have H1:((laws_caTerm.f kj24 t486 t454).bind fun t490=>(some t490))=some r:=qz35
           clear H
           have H:=H1
           clear H1
           replace H:=Option.bind_eq_some_iff.mp H
           obtain ⟨t490,A530,H⟩:=H
           try dsimp only at H
           have A53:=Aside0.mk A530
           clear A530
           obtain rfl:=Option.some.inj H
           go_wp2_with (first|(go_at_call 48;(with_reducible refine (spec_TrmFree.calls kj24 _ _ t453 t482 _ ?side1 ?side2 A41.out).mono ?_);(case side1=>exact qz20);(case side2=>exact (Kd.R_reads' HO_4.out).2.1);rintro e w54 ⟨v483,rfl,ho0,hb⟩;have n0_:=Aside0.mk (Kd.R_below qz26 hb);have n1_:=Aside0.mk (Kd.R_below qz13 hb);have n2_:=Aside0.mk (Kd.S_below qz25 hb);have n3_:=Aside0.mk (Kd.R_lower ho0 (below_size qz4));have n4_:=Aside0.mk (below_step qz4 hb);clear HO_4 HO_5 HO_6 HB;have HO_4:=n0_;have HO_5:=n1_;have HO_6:=n2_;have HO484:=n3_;have HB:=n4_;clear n0_ n1_ n2_ n3_ n4_;(try clear hb);(try clear hb2);(try clear hk);(try clear hi);(try clear ho0);obtain ⟨Ao55,co55,eo55⟩:=Kd.R_slice HO484.out;subst eo55;obtain ⟨Ao56,co56,eo56⟩:=Kd.S_slice HO_6.out;subst eo56)|(go_at_call 36;(with_reducible refine (impl_SubFull.calls kj24 _ _ t464 _ _ t453 t486 true _ ?side1 ?side2 ?side3 ?side4 A51.out).mono ?_);(case side1=>exact qz81);(case side2=>exact (Kd.S_reads' HO_6.out).2.1);(case side3=>exact qz20);(case side4=>exact (Kd.R_reads' HO_4.out).2.1);rintro e w57 ⟨v488,rfl,ho0,hb⟩;have n0_:=Aside0.mk (Kd.R_below qz26 hb);have n1_:=Aside0.mk (Kd.R_below qz13 hb);have n2_:=Aside0.mk (Kd.S_below qz25 hb);have n3_:=Aside0.mk (Kd.R_below (by (with_reducible repeat (first|apply Kd.R_alloc|apply Kd.R_drewN|apply Kd.R_drew));exact HO484.out) hb);have n4_:=Aside0.mk (Kd.R_lower ho0 (below_size qz4));have n5_:=Aside0.mk (below_step qz4 hb);clear HO_4 HO_5 HO_6 HO484 HB;have HO_4:=n0_;have HO_5:=n1_;have HO_6:=n2_;have HO484:=n3_;have HO489:=n4_;have HB:=n5_;clear n0_ n1_ n2_ n3_ n4_ n5_;(try clear hb);(try clear hb2);(try clear hk);(try clear hi);(try clear ho0);obtain ⟨Ao58,co58,eo58⟩:=Kd.R_slice HO489.out;subst eo58)|(go_at_call 20;(with_reducible refine (laws_caTerm.calls kj24 _ _ t486 _ _ t454 t490 _ ?side1 ?side2 ?side3 ?side4 A53.out).mono ?_);(case side1=>repeat (first|exact (Kd.R_reads' HO489.out).2.2|(with_reducible refine Kd.C_alloc ?_ _)|(with_reducible refine Kd.C_drewN ?_ _)|(with_reducible refine Kd.C_drew ?_)));(case side2=>exact (Kd.R_reads' HO489.out).2.1);(case side3=>exact qz29);(case side4=>exact (Kd.R_reads' HO_5.out).2.1);rintro e w' ⟨rfl,⟨nd,rfl⟩⟩))
           go_ret
           exact ⟨qz7,qz5⟩
          ·replace c52:=Bool.eq_false_iff.mpr c52
           subst c52
           have H1:(some false)=some r:=qz24
           clear H
           have H:=H1
           clear H1
           obtain rfl:=Option.some.inj H
           go_wp2_with (first|(go_at_call 48;(with_reducible refine (spec_TrmFree.calls kj24 _ _ t453 t482 _ ?side1 ?side2 A41.out).mono ?_);(case side1=>exact qz20);(case side2=>exact (Kd.R_reads' HO_4.out).2.1);rintro e w59 ⟨v483,rfl,ho0,hb⟩;have n0_:=Aside0.mk (Kd.R_below qz26 hb);have n1_:=Aside0.mk (Kd.R_below qz13 hb);have n2_:=Aside0.mk (Kd.S_below qz25 hb);have n3_:=Aside0.mk (Kd.R_lower ho0 (below_size qz4));have n4_:=Aside0.mk (below_step qz4 hb);clear HO_4 HO_5 HO_6 HB;have HO_4:=n0_;have HO_5:=n1_;have HO_6:=n2_;have HO484:=n3_;have HB:=n4_;clear n0_ n1_ n2_ n3_ n4_;(try clear hb);(try clear hb2);(try clear hk);(try clear hi);(try clear ho0);obtain ⟨Ao60,co60,eo60⟩:=Kd.R_slice HO484.out;subst eo60;obtain ⟨Ao61,co61,eo61⟩:=Kd.S_slice HO_6.out;subst eo61)|(go_at_call 36;(with_reducible refine (impl_SubFull.calls kj24 _ _ t464 _ _ t453 t486 false _ ?side1 ?side2 ?side3 ?side4 A51.out).mono ?_);(case side1=>exact qz81);(case side2=>exact (Kd.S_reads' HO_6.out).2.1);(case side3=>exact qz20);(case side4=>exact (Kd.R_reads' HO_4.out).2.1);rintro e w62 ⟨v488,rfl,ho0,hb⟩;have n0_:=Aside0.mk (Kd.R_below qz26 hb);have n1_:=Aside0.mk (Kd.R_below qz13 hb);have n2_:=Aside0.mk (Kd.S_below qz25 hb);have n3_:=Aside0.mk (Kd.R_below (by (with_reducible repeat (first|apply Kd.R_alloc|apply Kd.R_drewN|apply Kd.R_drew));exact HO484.out) hb);have n4_:=Aside0.mk (Kd.R_lower ho0 (below_size qz4));have n5_:=Aside0.mk (below_step qz4 hb);clear HO_4 HO_5 HO_6 HO484 HB;have HO_4:=n0_;have HO_5:=n1_;have HO_6:=n2_;have HO484:=n3_;have HO489:=n4_;have HB:=n5_;clear n0_ n1_ n2_ n3_ n4_ n5_;(try clear hb);(try clear hb2);(try clear hk);(try clear hi);(try clear ho0)))
           go_ret
           exact ⟨qz7,qz5⟩
         ·rw [if_neg c50] at H
          have c50b0:(t465 == 1)=false:=beq_eq_false_iff_ne.mpr c50
          have c50b1:(t465 != 1)=true:=bne_iff_ne.mpr c50
          by_cases c63:t465=2
          ·rw [if_pos c63] at H
           have c63b0:(t465 == 2)=true:=beq_iff_eq.mpr c63
           have c63b1:(t465 != 2)=false:=bne_eq_false_iff_eq.mpr c63
           clear c63
           obtain rfl:=Option.some.inj H
           go_wp2_with (first|(go_at_call 48;(with_reducible refine (spec_TrmFree.calls kj24 _ _ t453 t482 _ ?side1 ?side2 A41.out).mono ?_);(case side1=>exact qz20);(case side2=>exact (Kd.R_reads' HO_4.out).2.1);rintro e w64 ⟨v483,rfl,ho0,hb⟩;have n0_:=Aside0.mk (Kd.R_below qz26 hb);have n1_:=Aside0.mk (Kd.R_below qz13 hb);have n2_:=Aside0.mk (Kd.S_below qz25 hb);have n3_:=Aside0.mk (Kd.R_lower ho0 (below_size qz4));have n4_:=Aside0.mk (below_step qz4 hb);clear HO_4 HO_5 HO_6 HB;have HO_4:=n0_;have HO_5:=n1_;have HO_6:=n2_;have HO484:=n3_;have HB:=n4_;clear n0_ n1_ n2_ n3_ n4_;(try clear hb);(try clear hb2);(try clear hk);(try clear hi);(try clear ho0);obtain ⟨Ao65,co65,eo65⟩:=Kd.R_slice HO484.out;subst eo65))
           go_ret
           exact ⟨qz7,qz5⟩
          ·rw [if_neg c63] at H
           have c63b0:(t465 == 2)=false:=beq_eq_false_iff_ne.mpr c63
           have c63b1:(t465 != 2)=true:=bne_iff_ne.mpr c63
           obtain rfl:=Option.some.inj H
           go_wp2_with (first|(go_at_call 48;(with_reducible refine (spec_TrmFree.calls kj24 _ _ t453 t482 _ ?side1 ?side2 A41.out).mono ?_);(case side1=>exact qz20);(case side2=>exact (Kd.R_reads' HO_4.out).2.1);rintro e w66 ⟨v483,rfl,ho0,hb⟩;have n0_:=Aside0.mk (Kd.R_below qz26 hb);have n1_:=Aside0.mk (Kd.R_below qz13 hb);have n2_:=Aside0.mk (Kd.S_below qz25 hb);have n3_:=Aside0.mk (Kd.R_lower ho0 (below_size qz4));have n4_:=Aside0.mk (below_step qz4 hb);clear HO_4 HO_5 HO_6 HB;have HO_4:=n0_;have HO_5:=n1_;have HO_6:=n2_;have HO484:=n3_;have HB:=n4_;clear n0_ n1_ n2_ n3_ n4_;(try clear hb);(try clear hb2);(try clear hk);(try clear hi);(try clear ho0);obtain ⟨Ao67,co67,eo67⟩:=Kd.R_slice HO484.out;subst eo67))
           go_ret
           exact ⟨qz7,qz5⟩

end Go.Proofs.YtlaicnoikeieeaaDoor.P
