/- Contracts of functions of the program: each as a Lean function, and that its call does what that says; printed by cprint.py (this session) over print.py of the kit. Conditions: the hypotheses of each theorem. -/
import Derived.Test.YtlaicnoikeieeaaDoorVZ
import Derived.Test.YtlaicnoikeieeaaDoorP0
import Derived.Test.YtlaicnoikeieeaaDoorP3
import Derived.Test.YtlaicnoikeieeaaDoorP15
import Derived.Test.YtlaicnoikeieeaaDoorP16
import Derived.Test.YtlaicnoikeieeaaDoorP17
namespace Go.Proofs.YtlaicnoikeieeaaDoor.P
open Go.RowKit Go.Proofs.YtlaicnoikeieeaaDoorW.PrintWords Go.Proofs.YtlaicnoikeieeaaDoorW.PrintLast Go.Proofs.YtlaicnoikeieeaaDoorW.PrintMore
attribute [local go_sem] max2_int min2_int max_two min_two max_three min_three max_four min_four   -- for this text's walks alone
set_option linter.unusedVariables false
set_option linter.unusedSimpArgs false
def spec_l20BindsOr.f (k:Nat) (s0_0:List Int) (s0_1:Int) (a1:Int):Option ((List (S30)) × Int):=(spec_l20Binds.f k s0_0 s0_1).bind fun bt382=>((spec_l20Rd_odd.f k s0_0 bt382.2 a1).bind fun bt386=>(if bt386.1=true then ((spec_l20Rd_pick.f k s0_0 bt386.2 4).bind fun bt388=>(if bt388.1=0 then (if bt382.1.length<4398046511104 then (some ((bt382.1++[(⟨0,(([(⟨1,0,(⟨#[]⟩:ByteArray)⟩:S46)]:List (S46)))⟩:S30)]),bt388.2)) else (none)) else (if bt388.1=1 then ((some (([(-1),100000]:List Int):List Int)).bind fun y396=>((spec_l20Rd_pick.f k s0_0 bt388.2 2).bind fun bt399=>(if 0≤bt399.1 then (if bt399.1<(y396.length:Int) then (if bt382.1.length<4398046511104 then (some ((bt382.1++[(⟨rd y396 bt399.1,(([(⟨2,0,(⟨#[]⟩:ByteArray)⟩:S46)]:List (S46)))⟩:S30)]),bt399.2)) else (none)) else (none)) else (none)))) else (if bt388.1=2 then ((spec_l20Term.f k s0_0 bt388.2 8 3).bind fun bt408=>((spec_l20Spoil.f k s0_0 bt408.2 bt408.1).bind fun bt412=>(if bt382.1.length<4398046511104 then (some ((bt382.1++[(⟨9,bt412.1⟩:S30)]),bt412.2)) else (none)))) else (if bt382.1.length<4398046511104 then ((some (bt382.1++[(⟨7,(([(⟨1,8,(⟨#[]⟩:ByteArray)⟩:S46)]:List (S46)))⟩:S30)]:List (S30))).bind fun y422=>(if y422.length<4398046511104 then (some ((y422++[(⟨8,(([(⟨3,1,(⟨#[102]⟩:ByteArray)⟩:S46),(⟨1,7,(⟨#[]⟩:ByteArray)⟩:S46)]:List (S46)))⟩:S30)]),bt388.2)) else (none))) else (none)))))) else (some (bt382.1,bt386.2))))
set_option maxHeartbeats 8000000 in
set_option maxRecDepth 100000 in
theorem spec_l20BindsOr.calls (k:Nat) (g:Nat) (s0_0:List Int) (s0_1:Int) (a1:Int) (r1:List (S30)) (r2:Int) (w0 w:World) (hI:IsS102 w0 w g s0_0 s0_1) (hB:Below w0.heap.size w0 w) (h:spec_l20BindsOr.f k s0_0 s0_1 a1=some (r1,r2)) :
  Calls Tryd.prog 51 #[.pointer (some ⟨g,0,none⟩),.int .i64 a1] w fun e w'=>∃ v0_:Value,e = .returned (v0_)∧Kd.S k30 30 w' w.heap.size (fun _=>True) v0_ r1∧IsS102 w0 w' g s0_0 r2∧Below w0.heap.size w0 w'∧KeepBut w w' g none:=by
 have hu46:=Tryd.underlying46
 have hu30:=Tryd.underlying30
 have HI0:=Aside0.mk hI
 have HK:=Aside0.mk (KeepBut.refl w g none)
 have HL:=Aside0.mk hB.size
 clear hI
 have HW0:=Aside0.mk hB.size
 have HB:=Aside0.mk hB
 clear hB
 have H:((spec_l20Binds.f k s0_0 s0_1).bind fun bt382=>((spec_l20Rd_odd.f k s0_0 bt382.2 a1).bind fun bt386=>(if bt386.1=true then ((spec_l20Rd_pick.f k s0_0 bt386.2 4).bind fun bt388=>(if bt388.1=0 then (if bt382.1.length<4398046511104 then (some ((bt382.1++[(⟨0,(([(⟨1,0,(⟨#[]⟩:ByteArray)⟩:S46)]:List (S46)))⟩:S30)]),bt388.2)) else (none)) else (if bt388.1=1 then ((some (([(-1),100000]:List Int):List Int)).bind fun y396=>((spec_l20Rd_pick.f k s0_0 bt388.2 2).bind fun bt399=>(if 0≤bt399.1 then (if bt399.1<(y396.length:Int) then (if bt382.1.length<4398046511104 then (some ((bt382.1++[(⟨rd y396 bt399.1,(([(⟨2,0,(⟨#[]⟩:ByteArray)⟩:S46)]:List (S46)))⟩:S30)]),bt399.2)) else (none)) else (none)) else (none)))) else (if bt388.1=2 then ((spec_l20Term.f k s0_0 bt388.2 8 3).bind fun bt408=>((spec_l20Spoil.f k s0_0 bt408.2 bt408.1).bind fun bt412=>(if bt382.1.length<4398046511104 then (some ((bt382.1++[(⟨9,bt412.1⟩:S30)]),bt412.2)) else (none)))) else (if bt382.1.length<4398046511104 then ((some (bt382.1++[(⟨7,(([(⟨1,8,(⟨#[]⟩:ByteArray)⟩:S46)]:List (S46)))⟩:S30)]:List (S30))).bind fun y422=>(if y422.length<4398046511104 then (some ((y422++[(⟨8,(([(⟨3,1,(⟨#[102]⟩:ByteArray)⟩:S46),(⟨1,7,(⟨#[]⟩:ByteArray)⟩:S46)]:List (S46)))⟩:S30)]),bt388.2)) else (none))) else (none)))))) else (some (bt382.1,bt386.2)))))=some (r1,r2):=h
 clear h
 replace H:=Option.bind_eq_some_iff.mp H
 obtain ⟨⟨t382,t385⟩,A30,H⟩:=H
 try dsimp only at H
 have A3:=Aside0.mk A30
 clear A30
 replace H:=Option.bind_eq_some_iff.mp H
 obtain ⟨⟨t386,t387⟩,A40,H⟩:=H
 try dsimp only at H
 have A4:=Aside0.mk A40
 clear A40
 by_cases c5:t386=true
 ·subst c5
  have H1:((spec_l20Rd_pick.f k s0_0 t387 4).bind fun bt388=>(if bt388.1=0 then (if t382.length<4398046511104 then (some ((t382++[(⟨0,(([(⟨1,0,(⟨#[]⟩:ByteArray)⟩:S46)]:List (S46)))⟩:S30)]),bt388.2)) else (none)) else (if bt388.1=1 then ((some (([(-1),100000]:List Int):List Int)).bind fun y396=>((spec_l20Rd_pick.f k s0_0 bt388.2 2).bind fun bt399=>(if 0≤bt399.1 then (if bt399.1<(y396.length:Int) then (if t382.length<4398046511104 then (some ((t382++[(⟨rd y396 bt399.1,(([(⟨2,0,(⟨#[]⟩:ByteArray)⟩:S46)]:List (S46)))⟩:S30)]),bt399.2)) else (none)) else (none)) else (none)))) else (if bt388.1=2 then ((spec_l20Term.f k s0_0 bt388.2 8 3).bind fun bt408=>((spec_l20Spoil.f k s0_0 bt408.2 bt408.1).bind fun bt412=>(if t382.length<4398046511104 then (some ((t382++[(⟨9,bt412.1⟩:S30)]),bt412.2)) else (none)))) else (if t382.length<4398046511104 then ((some (t382++[(⟨7,(([(⟨1,8,(⟨#[]⟩:ByteArray)⟩:S46)]:List (S46)))⟩:S30)]:List (S30))).bind fun y422=>(if y422.length<4398046511104 then (some ((y422++[(⟨8,(([(⟨3,1,(⟨#[102]⟩:ByteArray)⟩:S46),(⟨1,7,(⟨#[]⟩:ByteArray)⟩:S46)]:List (S46)))⟩:S30)]),bt388.2)) else (none))) else (none))))))=some (r1,r2):=qz40
  clear H
  have H:=H1
  clear H1
  replace H:=Option.bind_eq_some_iff.mp H
  obtain ⟨⟨t388,t389⟩,A60,H⟩:=H
  try dsimp only at H
  have A6:=Aside0.mk A60
  clear A60
  by_cases c7:t388=0
  ·rw [if_pos c7] at H
   have c7b0:(t388 == 0)=true:=beq_iff_eq.mpr c7
   have c7b1:(t388 != 0)=false:=bne_eq_false_iff_eq.mpr c7
   clear c7
   obtain ⟨y390,hy390⟩:∃ y_:List (S46),y_=(([(⟨1,0,(⟨#[]⟩:ByteArray)⟩:S46)]:List (S46))):=⟨_,rfl⟩
   replace H:(if t382.length<4398046511104 then (some ((t382++[(⟨0,y390⟩:S30)]),t389)) else (none))=some (r1,r2):=by first|(rw [hy390];exact H)|exact H
   have Ny390:=Aside0.mk hy390
   clear hy390
   by_cases c8:t382.length<4398046511104
   ·rw [if_pos c8] at H
    have LMc8:=Aside0.mk c8
    clear c8
    obtain ⟨y393,hy393⟩:∃ y_:List (S30),y_=(t382++[(⟨0,y390⟩:S30)]):=⟨_,rfl⟩
    replace H:(some (y393,t389))=some (r1,r2):=by first|(rw [hy393];exact H)|exact H
    have Ny393:=Aside0.mk hy393
    clear hy393
    simp only [Option.some.injEq,Prod.mk.injEq] at H
    obtain ⟨rfl,rfl⟩:=H
    go_enter Tryd.func51,Tryd.ntmps51
    go_wp2_with (first|(go_at_call 88;(with_reducible refine (spec_l20Binds.calls k g s0_0 s0_1 t382 t385 w0 _ ?side1 ?side2 A3.out).mono ?_);(case side1=>exact qz1);(case side2=>exact qz3);rintro e w9 ⟨v383,rfl,ho0,hi,hb,hk⟩;have n0_:=Aside0.mk (Kd.S_lower ho0 (keep_size (w:=w) (g:=g) (row:=none) qz2));have n1_:=Aside0.mk (KeepBut.trans qz2 hk (.inl rfl));have n2_:=Aside0.mk (hb);have n3_:=Aside0.mk (hi);clear HK HB HI0;have HO384:=n0_;have HK:=n1_;have HB:=n2_;have HI0:=n3_;clear n0_ n1_ n2_ n3_;(try clear hb);(try clear hb2);(try clear hk);(try clear hi);(try clear ho0))|(go_at_call 89;(with_reducible refine (spec_l20Rd_odd.calls k g s0_0 t385 a1 true t387 w0 _ ?side1 ?side2 A4.out).mono ?_);(case side1=>exact qz1);(case side2=>exact qz3);rintro e w10 ⟨rfl,hi,hb,hk⟩;have n0_:=Aside0.mk (Kd.S_mono (Kd.S_keep (IsS102.apartS (show IsS102 w0 _ g s0_0 t385 from qz1) qz22 (by decide)) hk (fun _ h=>h.2)) (fun _ h=>h.1));have n1_:=Aside0.mk (KeepBut.trans qz2 hk (.inl rfl));have n2_:=Aside0.mk (hb);have n3_:=Aside0.mk (hi);clear HO384 HK HB HI0;have HO384:=n0_;have HK:=n1_;have HB:=n2_;have HI0:=n3_;clear n0_ n1_ n2_ n3_;(try clear hb);(try clear hb2);(try clear hk);(try clear hi))|(go_at_call 52;(with_reducible refine (spec_l20Rd_pick.calls k g s0_0 t387 4 t388 t389 w0 _ ?side1 ?side2 A6.out).mono ?_);(case side1=>exact qz1);(case side2=>exact qz3);rintro e w11 ⟨rfl,hi,hb,hk⟩;have n0_:=Aside0.mk (Kd.S_mono (Kd.S_keep (IsS102.apartS (show IsS102 w0 _ g s0_0 t387 from qz1) qz22 (by decide)) hk (fun _ h=>h.2)) (fun _ h=>h.1));have n1_:=Aside0.mk (KeepBut.trans qz2 hk (.inl rfl));have n2_:=Aside0.mk (hb);have n3_:=Aside0.mk (hi);clear HO384 HK HB HI0;have HO384:=n0_;have HK:=n1_;have HB:=n2_;have HI0:=n3_;clear n0_ n1_ n2_ n3_;(try clear hb);(try clear hb2);(try clear hk);(try clear hi))|((with_reducible refine gate_dst (N:=17) rfl ?_);refine Kd.R_lit k46 _ 46 ?hg (N:=17) ?hd (xs:=([(⟨1,0,(⟨#[]⟩:ByteArray)⟩:S46)]:List (S46))) (inner:=[.int .i64 1,.int .i64 0,.string (⟨#[]⟩:ByteArray)]) (ok:=fun _=>True) (okp:=fun _=>True) ?hr ?hp (fun _ hk=>hk) trivial (Below.refl _ _) (Nat.le_refl _) (by simp) ?_;(case hd=>rfl);(case hg=>rfl);(case hr=>first|(go_simp;done)|(go_simp;rfl));(case hp=>exact (Reps.c3 (show Kd.M k46 _ _ _ (⟨1,0,(⟨#[]⟩:ByteArray)⟩:S46) [.int .i64 1,.int .i64 0,.string (⟨#[]⟩:ByteArray)] from (k46_mkM _ _ _ (⟨1,0,(⟨#[]⟩:ByteArray)⟩:S46) )) (Reps.none _ _)));intro v391 w12 ho13 hb hg_ hnew_;clear hg_ hnew_;(first|rw [← Ny390.out] at ho13|(simp only [Int.reduceToNat] at ho13;rw [← Ny390.out] at ho13));have n0_:=Aside0.mk (Kd.S_elder' qz22 (Kd.R_base ho13) hb);have n1_:=Aside0.mk (Kd.R_lower ho13 (keep_size (w:=w) (g:=g) (row:=none) qz2));have n2_:=Aside0.mk (IsS102.below qz1 hb);have n3_:=Aside0.mk (KeepBut.trans qz2 (KeepBut.of_below hb g none) (.inl rfl));have n4_:=Aside0.mk (below_step qz3 hb);clear HO384 HI0 HK HB;have HO384:=n0_;have HO392:=n1_;have HI0:=n2_;have HK:=n3_;have HB:=n4_;clear n0_ n1_ n2_ n3_ n4_ hb ho13;obtain ⟨Ao14,co14,eo14⟩:=Kd.R_slice HO392.out;subst eo14)|((with_reducible refine gate_builtin (b:=.append) (xs:=#[.tmp 15,.tmp 19]) rfl ?_);at_builtin;refine Kd.S_append k30 w.heap.size rfl (.tmp 15) (.tmp 19) 23 30 (.agg #[(.int .i64 0),(.slice none 0 0)]) 32 rfl Tryd.underlying23 info30 rfl (by decide) (by omega) v383 t382 (⟨0,y390⟩:S30) [.int .i64 0,.slice Ao14 y390.length co14] (fun _=>True) (fun k_=>some k_=(.slice Ao14 y390.length co14:Value).ownBlock) rfl rfl ?aP (fun k_ hk_=>((Kd.R_mono (ok':=fun k_=>((fun _=>True)) k_∧some k_≠(v383:Value).ownBlock) (Kd.R_apart' (HO392.out) (Kd.S_typed HO384.out) (by decide)) (fun k_ hk=>⟨trivial,hk.2⟩))).1 k_ hk_.symm) ?aF ?aO (Below.refl _ _) ?aS ?aL ?_;(case aP=>exact k30_mkM _ _ _ (⟨0,y390⟩:S30) (Kd.R_mono (Kd.R_tight rfl (Kd.R_mono (ok':=fun k_=>((fun _=>True)) k_∧some k_≠(v383:Value).ownBlock) (Kd.R_apart' (HO392.out) (Kd.S_typed HO384.out) (by decide)) (fun k_ hk=>⟨trivial,hk.2⟩))) (fun _ h_=>h_)));(case aF=>exact (fun _ _=>trivial));(case aO=>exact qz72);(case aS=>exact (keep_size (w:=w) (g:=g) (row:=none) qz2));(case aL=>have:=LMc8.out;omega);intro v394 w15 ho hb hg hat;rw [← Ny393.out] at ho;have n0_:=Aside0.mk (IsS102.grown qz1 hg (IsS102.own_neS HI0.out HO384.out (by decide)));have n1_:=Aside0.mk (below_weaken qz3 HL.out hb);have n2_:=Aside0.mk (KeepBut.trans qz2 (KeepBut.of_grown hg g) (Kd.S_base2 HO384.out));have n3_:=Aside0.mk (ho);clear HI0 HB HK HO384 HO392;have HI0:=n0_;have HB:=n1_;have HK:=n2_;have HO395:=n3_;clear n0_ n1_ n2_ n3_ ho hb hg hat))
    go_ret
    exact ⟨_,qz7,by (with_reducible repeat (first|apply Kd.S_alloc|apply Kd.S_drewN|apply Kd.S_drew));exact HO395.out,qz1,qz3,qz2⟩
   ·rw [if_neg c8] at H
    exact absurd H (by simp)
  ·rw [if_neg c7] at H
   have c7b0:(t388 == 0)=false:=beq_eq_false_iff_ne.mpr c7
   have c7b1:(t388 != 0)=true:=bne_iff_ne.mpr c7
   by_cases c16:t388=1
   ·rw [if_pos c16] at H
    have c16b0:(t388 == 1)=true:=beq_iff_eq.mpr c16
    have c16b1:(t388 != 1)=false:=bne_eq_false_iff_eq.mpr c16
    clear c16
    obtain ⟨y396,hy396⟩:∃ y_:List Int,y_=(([(-1),100000]:List Int)):=⟨_,rfl⟩
    replace H:((spec_l20Rd_pick.f k s0_0 t389 2).bind fun bt399=>(if 0≤bt399.1 then (if bt399.1<(y396.length:Int) then (if t382.length<4398046511104 then (some ((t382++[(⟨rd y396 bt399.1,(([(⟨2,0,(⟨#[]⟩:ByteArray)⟩:S46)]:List (S46)))⟩:S30)]),bt399.2)) else (none)) else (none)) else (none)))=some (r1,r2):=by first|(rw [hy396];exact H)|exact H
    have Ny396:=Aside0.mk hy396
    clear hy396
    replace H:=Option.bind_eq_some_iff.mp H
    obtain ⟨⟨t399,t400⟩,A170,H⟩:=H
    try dsimp only at H
    have A17:=Aside0.mk A170
    clear A170
    by_cases c18:0≤t399
    ·rw [if_pos c18] at H
     have c18b0:decide (0≤t399)=true:=decide_eq_true c18
     clear c18
     by_cases c19:t399<(y396.length:Int)
     ·rw [if_pos c19] at H
      have c19b0:decide (t399<(y396.length:Int))=true:=decide_eq_true c19
      clear c19
      obtain ⟨y402,hy402⟩:∃ y_:List (S46),y_=(([(⟨2,0,(⟨#[]⟩:ByteArray)⟩:S46)]:List (S46))):=⟨_,rfl⟩
      replace H:(if t382.length<4398046511104 then (some ((t382++[(⟨rd y396 t399,y402⟩:S30)]),t400)) else (none))=some (r1,r2):=by first|(rw [hy402];exact H)|exact H
      have Ny402:=Aside0.mk hy402
      clear hy402
      by_cases c20:t382.length<4398046511104
      ·rw [if_pos c20] at H
       have LMc20:=Aside0.mk c20
       clear c20
       obtain ⟨y405,hy405⟩:∃ y_:List (S30),y_=(t382++[(⟨rd y396 t399,y402⟩:S30)]):=⟨_,rfl⟩
       replace H:(some (y405,t400))=some (r1,r2):=by first|(rw [hy405];exact H)|exact H
       have Ny405:=Aside0.mk hy405
       clear hy405
       simp only [Option.some.injEq,Prod.mk.injEq] at H
       obtain ⟨rfl,rfl⟩:=H
       go_enter Tryd.func51,Tryd.ntmps51
       go_wp2_with (first|(go_at_call 88;(with_reducible refine (spec_l20Binds.calls k g s0_0 s0_1 t382 t385 w0 _ ?side1 ?side2 A3.out).mono ?_);(case side1=>exact qz1);(case side2=>exact qz3);rintro e w21 ⟨v383,rfl,ho0,hi,hb,hk⟩;have n0_:=Aside0.mk (Kd.S_lower ho0 (keep_size (w:=w) (g:=g) (row:=none) qz2));have n1_:=Aside0.mk (KeepBut.trans qz2 hk (.inl rfl));have n2_:=Aside0.mk (hb);have n3_:=Aside0.mk (hi);clear HK HB HI0;have HO384:=n0_;have HK:=n1_;have HB:=n2_;have HI0:=n3_;clear n0_ n1_ n2_ n3_;(try clear hb);(try clear hb2);(try clear hk);(try clear hi);(try clear ho0))|(go_at_call 89;(with_reducible refine (spec_l20Rd_odd.calls k g s0_0 t385 a1 true t387 w0 _ ?side1 ?side2 A4.out).mono ?_);(case side1=>exact qz1);(case side2=>exact qz3);rintro e w22 ⟨rfl,hi,hb,hk⟩;have n0_:=Aside0.mk (Kd.S_mono (Kd.S_keep (IsS102.apartS (show IsS102 w0 _ g s0_0 t385 from qz1) qz22 (by decide)) hk (fun _ h=>h.2)) (fun _ h=>h.1));have n1_:=Aside0.mk (KeepBut.trans qz2 hk (.inl rfl));have n2_:=Aside0.mk (hb);have n3_:=Aside0.mk (hi);clear HO384 HK HB HI0;have HO384:=n0_;have HK:=n1_;have HB:=n2_;have HI0:=n3_;clear n0_ n1_ n2_ n3_;(try clear hb);(try clear hb2);(try clear hk);(try clear hi))|(go_at_call 52;(with_reducible refine (spec_l20Rd_pick.calls k g s0_0 t387 4 t388 t389 w0 _ ?side1 ?side2 A6.out).mono ?_);(case side1=>exact qz1);(case side2=>exact qz3);rintro e w23 ⟨rfl,hi,hb,hk⟩;have n0_:=Aside0.mk (Kd.S_mono (Kd.S_keep (IsS102.apartS (show IsS102 w0 _ g s0_0 t387 from qz1) qz22 (by decide)) hk (fun _ h=>h.2)) (fun _ h=>h.1));have n1_:=Aside0.mk (KeepBut.trans qz2 hk (.inl rfl));have n2_:=Aside0.mk (hb);have n3_:=Aside0.mk (hi);clear HO384 HK HB HI0;have HO384:=n0_;have HK:=n1_;have HB:=n2_;have HI0:=n3_;clear n0_ n1_ n2_ n3_;(try clear hb);(try clear hb2);(try clear hk);(try clear hi))|((with_reducible refine gate_dst (N:=24) rfl ?_);refine Kd.R_lit (Kd.int .i64) _ 3 ?hg (N:=24) ?hd (xs:=([(-1),100000]:List Int)) (inner:=[.int .i64 (-1),.int .i64 100000]) (ok:=fun _=>True) (okp:=fun _=>True) ?hr ?hp (fun _ hk=>hk) trivial (Below.refl _ _) (Nat.le_refl _) (by simp) ?_;(case hd=>rfl);(case hg=>rfl);(case hr=>first|(go_simp;done)|(go_simp;rfl));(case hp=>exact (Reps.one (show Kd.M (Kd.int .i64) _ _ _ (-1) [.int .i64 (-1)] from rfl) (Reps.one (show Kd.M (Kd.int .i64) _ _ _ 100000 [.int .i64 100000] from rfl) (Reps.none _ _))));intro v397 w24 ho25 hb hg_ hnew_;clear hg_ hnew_;(first|rw [← Ny396.out] at ho25|(simp only [Int.reduceToNat] at ho25;rw [← Ny396.out] at ho25));have n0_:=Aside0.mk (Kd.S_below qz22 hb);have n1_:=Aside0.mk (Kd.R_lower ho25 (keep_size (w:=w) (g:=g) (row:=none) qz2));have n2_:=Aside0.mk (IsS102.below qz1 hb);have n3_:=Aside0.mk (KeepBut.trans qz2 (KeepBut.of_below hb g none) (.inl rfl));have n4_:=Aside0.mk (below_step qz3 hb);clear HO384 HI0 HK HB;have HO384:=n0_;have HO398:=n1_;have HI0:=n2_;have HK:=n3_;have HB:=n4_;clear n0_ n1_ n2_ n3_ n4_ hb ho25)|(go_at_call 52;(with_reducible refine (spec_l20Rd_pick.calls k g s0_0 t389 2 t399 t400 w0 _ ?side1 ?side2 A17.out).mono ?_);(case side1=>exact qz1);(case side2=>exact qz3);rintro e w26 ⟨rfl,hi,hb,hk⟩;have n0_:=Aside0.mk (Kd.S_mono (Kd.S_keep (IsS102.apartS (show IsS102 w0 _ g s0_0 t389 from qz1) qz22 (by decide)) hk (fun _ h=>h.2)) (fun _ h=>h.1));have n1_:=Aside0.mk (Kd.R_mono (Kd.R_keep (IsS102.apart (show IsS102 w0 _ g s0_0 t389 from qz1) qz84 (by decide)) hk (fun _ h=>h.2)) (fun _ h=>h.1));have n2_:=Aside0.mk (KeepBut.trans qz2 hk (.inl rfl));have n3_:=Aside0.mk (hb);have n4_:=Aside0.mk (hi);clear HO384 HO398 HK HB HI0;have HO384:=n0_;have HO398:=n1_;have HK:=n2_;have HB:=n3_;have HI0:=n4_;clear n0_ n1_ n2_ n3_ n4_;(try clear hb);(try clear hb2);(try clear hk);(try clear hi);obtain ⟨Ao27,co27,eo27⟩:=Kd.R_slice HO398.out;subst eo27;have p401:0≤(t399:Int):=of_decide_eq_true qz6;have q401:t399<(y396.length:Int):=of_decide_eq_true qz6;obtain ⟨ad401,e401,hx401_0⟩:=Kd.at_int (Kd.R_reads' HO398.out).2.2 t399 p401 q401;cases e401;replace p401:=eq_true p401;replace q401:=eq_true q401)|((with_reducible refine gate_dst (N:=30) rfl ?_);refine Kd.R_lit k46 _ 46 ?hg (N:=30) ?hd (xs:=([(⟨2,0,(⟨#[]⟩:ByteArray)⟩:S46)]:List (S46))) (inner:=[.int .i64 2,.int .i64 0,.string (⟨#[]⟩:ByteArray)]) (ok:=fun _=>True) (okp:=fun _=>True) ?hr ?hp (fun _ hk=>hk) trivial (Below.refl _ _) (Nat.le_refl _) (by simp) ?_;(case hd=>rfl);(case hg=>rfl);(case hr=>first|(go_simp;done)|(go_simp;rfl));(case hp=>exact (Reps.c3 (show Kd.M k46 _ _ _ (⟨2,0,(⟨#[]⟩:ByteArray)⟩:S46) [.int .i64 2,.int .i64 0,.string (⟨#[]⟩:ByteArray)] from (k46_mkM _ _ _ (⟨2,0,(⟨#[]⟩:ByteArray)⟩:S46) )) (Reps.none _ _)));intro v403 w28 ho29 hb hg_ hnew_;clear hg_ hnew_;(first|rw [← Ny402.out] at ho29|(simp only [Int.reduceToNat] at ho29;rw [← Ny402.out] at ho29));have n0_:=Aside0.mk (Kd.S_elder' qz22 (Kd.R_base ho29) hb);have n1_:=Aside0.mk (Kd.R_below qz84 hb);have n2_:=Aside0.mk (Kd.R_lower ho29 (keep_size (w:=w) (g:=g) (row:=none) qz2));have n3_:=Aside0.mk (IsS102.below qz1 hb);have n4_:=Aside0.mk (KeepBut.trans qz2 (KeepBut.of_below hb g none) (.inl rfl));have n5_:=Aside0.mk (below_step qz3 hb);clear HO384 HO398 HI0 HK HB;have HO384:=n0_;have HO398:=n1_;have HO404:=n2_;have HI0:=n3_;have HK:=n4_;have HB:=n5_;clear n0_ n1_ n2_ n3_ n4_ n5_ hb ho29;obtain ⟨Ao30,co30,eo30⟩:=Kd.R_slice HO404.out;subst eo30)|((with_reducible refine gate_builtin (b:=.append) (xs:=#[.tmp 23,.tmp 32]) rfl ?_);at_builtin;refine Kd.S_append k30 w.heap.size rfl (.tmp 23) (.tmp 32) 23 30 (.agg #[(.int .i64 0),(.slice none 0 0)]) 32 rfl Tryd.underlying23 info30 rfl (by decide) (by omega) v383 t382 (⟨rd y396 t399,y402⟩:S30) [.int .i64 (rd y396 t399),.slice Ao30 y402.length co30] (fun _=>True) (fun k_=>some k_=(.slice Ao30 y402.length co30:Value).ownBlock) rfl rfl ?aP (fun k_ hk_=>((Kd.R_mono (ok':=fun k_=>((fun _=>True)) k_∧some k_≠(v383:Value).ownBlock) (Kd.R_apart' (HO404.out) (Kd.S_typed HO384.out) (by decide)) (fun k_ hk=>⟨trivial,hk.2⟩))).1 k_ hk_.symm) ?aF ?aO (Below.refl _ _) ?aS ?aL ?_;(case aP=>exact k30_mkM _ _ _ (⟨rd y396 t399,y402⟩:S30) (Kd.R_mono (Kd.R_tight rfl (Kd.R_mono (ok':=fun k_=>((fun _=>True)) k_∧some k_≠(v383:Value).ownBlock) (Kd.R_apart' (HO404.out) (Kd.S_typed HO384.out) (by decide)) (fun k_ hk=>⟨trivial,hk.2⟩))) (fun _ h_=>h_)));(case aF=>exact (fun _ _=>trivial));(case aO=>exact qz72);(case aS=>exact (keep_size (w:=w) (g:=g) (row:=none) qz2));(case aL=>have:=LMc20.out;omega);intro v406 w31 ho hb hg hat;rw [← Ny405.out] at ho;have n0_:=Aside0.mk (IsS102.grown qz1 hg (IsS102.own_neS HI0.out HO384.out (by decide)));have n1_:=Aside0.mk (Kd.R_over' qz84 (Kd.S_typed qz22) (by decide) hg);have n2_:=Aside0.mk (below_weaken qz3 HL.out hb);have n3_:=Aside0.mk (KeepBut.trans qz2 (KeepBut.of_grown hg g) (Kd.S_base2 HO384.out));have n4_:=Aside0.mk (ho);clear HI0 HO398 HB HK HO384 HO404;have HI0:=n0_;have HO398:=n1_;have HB:=n2_;have HK:=n3_;have HO407:=n4_;clear n0_ n1_ n2_ n3_ n4_ ho hb hg hat))
       go_ret
       exact ⟨_,qz7,by (with_reducible repeat (first|apply Kd.S_alloc|apply Kd.S_drewN|apply Kd.S_drew));exact HO407.out,qz1,qz3,qz2⟩
      ·rw [if_neg c20] at H
       exact absurd H (by simp)
     ·rw [if_neg c19] at H
      exact absurd H (by simp)
    ·rw [if_neg c18] at H
     exact absurd H (by simp)
   ·rw [if_neg c16] at H
    have c16b0:(t388 == 1)=false:=beq_eq_false_iff_ne.mpr c16
    have c16b1:(t388 != 1)=true:=bne_iff_ne.mpr c16
    by_cases c32:t388=2
    ·rw [if_pos c32] at H
     have c32b0:(t388 == 2)=true:=beq_iff_eq.mpr c32
     have c32b1:(t388 != 2)=false:=bne_eq_false_iff_eq.mpr c32
     clear c32
     replace H:=Option.bind_eq_some_iff.mp H
     obtain ⟨⟨t408,t411⟩,A330,H⟩:=H
     try dsimp only at H
     have A33:=Aside0.mk A330
     clear A330
     replace H:=Option.bind_eq_some_iff.mp H
     obtain ⟨⟨t412,t415⟩,A340,H⟩:=H
     try dsimp only at H
     have A34:=Aside0.mk A340
     clear A340
     by_cases c35:t382.length<4398046511104
     ·rw [if_pos c35] at H
      have LMc35:=Aside0.mk c35
      clear c35
      obtain ⟨y416,hy416⟩:∃ y_:List (S30),y_=(t382++[(⟨9,t412⟩:S30)]):=⟨_,rfl⟩
      replace H:(some (y416,t415))=some (r1,r2):=by first|(rw [hy416];exact H)|exact H
      have Ny416:=Aside0.mk hy416
      clear hy416
      simp only [Option.some.injEq,Prod.mk.injEq] at H
      obtain ⟨rfl,rfl⟩:=H
      go_enter Tryd.func51,Tryd.ntmps51
      go_wp2_with (first|(go_at_call 88;(with_reducible refine (spec_l20Binds.calls k g s0_0 s0_1 t382 t385 w0 _ ?side1 ?side2 A3.out).mono ?_);(case side1=>exact qz1);(case side2=>exact qz3);rintro e w36 ⟨v383,rfl,ho0,hi,hb,hk⟩;have n0_:=Aside0.mk (Kd.S_lower ho0 (keep_size (w:=w) (g:=g) (row:=none) qz2));have n1_:=Aside0.mk (KeepBut.trans qz2 hk (.inl rfl));have n2_:=Aside0.mk (hb);have n3_:=Aside0.mk (hi);clear HK HB HI0;have HO384:=n0_;have HK:=n1_;have HB:=n2_;have HI0:=n3_;clear n0_ n1_ n2_ n3_;(try clear hb);(try clear hb2);(try clear hk);(try clear hi);(try clear ho0))|(go_at_call 89;(with_reducible refine (spec_l20Rd_odd.calls k g s0_0 t385 a1 true t387 w0 _ ?side1 ?side2 A4.out).mono ?_);(case side1=>exact qz1);(case side2=>exact qz3);rintro e w37 ⟨rfl,hi,hb,hk⟩;have n0_:=Aside0.mk (Kd.S_mono (Kd.S_keep (IsS102.apartS (show IsS102 w0 _ g s0_0 t385 from qz1) qz22 (by decide)) hk (fun _ h=>h.2)) (fun _ h=>h.1));have n1_:=Aside0.mk (KeepBut.trans qz2 hk (.inl rfl));have n2_:=Aside0.mk (hb);have n3_:=Aside0.mk (hi);clear HO384 HK HB HI0;have HO384:=n0_;have HK:=n1_;have HB:=n2_;have HI0:=n3_;clear n0_ n1_ n2_ n3_;(try clear hb);(try clear hb2);(try clear hk);(try clear hi))|(go_at_call 52;(with_reducible refine (spec_l20Rd_pick.calls k g s0_0 t387 4 t388 t389 w0 _ ?side1 ?side2 A6.out).mono ?_);(case side1=>exact qz1);(case side2=>exact qz3);rintro e w38 ⟨rfl,hi,hb,hk⟩;have n0_:=Aside0.mk (Kd.S_mono (Kd.S_keep (IsS102.apartS (show IsS102 w0 _ g s0_0 t387 from qz1) qz22 (by decide)) hk (fun _ h=>h.2)) (fun _ h=>h.1));have n1_:=Aside0.mk (KeepBut.trans qz2 hk (.inl rfl));have n2_:=Aside0.mk (hb);have n3_:=Aside0.mk (hi);clear HO384 HK HB HI0;have HO384:=n0_;have HK:=n1_;have HB:=n2_;have HI0:=n3_;clear n0_ n1_ n2_ n3_;(try clear hb);(try clear hb2);(try clear hk);(try clear hi))|(go_at_call 91;(with_reducible refine (spec_l20Term.calls k g s0_0 t389 8 3 t408 t411 w0 _ ?side1 ?side2 A33.out).mono ?_);(case side1=>exact qz1);(case side2=>exact qz3);rintro e w39 ⟨v409,rfl,ho0,hi,hb,hk⟩;have n0_:=Aside0.mk (Kd.S_mono (Kd.S_told (Kd.S_oldK (IsS102.apartS (show IsS102 w0 _ g s0_0 t389 from qz1) qz22 (by decide)) hk) (Kd.R_base ho0)) (fun _ h_=>h_.1));have n1_:=Aside0.mk (Kd.R_lower ho0 (keep_size (w:=w) (g:=g) (row:=none) qz2));have n2_:=Aside0.mk (KeepBut.trans qz2 hk (.inl rfl));have n3_:=Aside0.mk (hb);have n4_:=Aside0.mk (hi);clear HO384 HK HB HI0;have HO384:=n0_;have HO410:=n1_;have HK:=n2_;have HB:=n3_;have HI0:=n4_;clear n0_ n1_ n2_ n3_ n4_;(try clear hb);(try clear hb2);(try clear hk);(try clear hi);(try clear ho0);obtain ⟨Ao40,co40,eo40⟩:=Kd.R_slice HO410.out;subst eo40)|(go_at_call 90;(with_reducible refine (spec_l20Spoil.calls k g s0_0 t411 _ _ t408 t412 t415 w0 _ ?side1 ?side2 ?side3 ?side4 A34.out).mono ?_);(case side1=>exact qz1);(case side2=>exact qz3);(case side3=>exact Kd.C_foot_own (IsS102.apart (show IsS102 w0 _ g s0_0 t411 from qz1) qz63 (by decide)) (fun _ h_=>h_.2));(case side4=>exact (Kd.R_reads' HO410.out).2.1);rintro e w41 ⟨v413,rfl,ho0,hi,hb,hk⟩;have n0_:=Aside0.mk (Kd.S_mono (Kd.S_told (Kd.S_oldK (IsS102.apartS (show IsS102 w0 _ g s0_0 t411 from qz1) qz22 (by decide)) hk) (Kd.R_base ho0)) (fun _ h_=>h_.1));have n1_:=Aside0.mk (Kd.R_mono (Kd.R_told (Kd.R_oldK (IsS102.apart (show IsS102 w0 _ g s0_0 t411 from qz1) qz63 (by decide)) hk) (Kd.R_base ho0)) (fun _ h_=>h_.1));have n2_:=Aside0.mk (Kd.R_lower (Kd.R_new' ho0 (Kd.R_lt qz63)) (keep_size (w:=w) (g:=g) (row:=none) qz2));have n3_:=Aside0.mk (KeepBut.trans qz2 hk (.inl rfl));have n4_:=Aside0.mk (hb);have n5_:=Aside0.mk (hi);clear HO384 HO410 HK HB HI0;have HO384:=n0_;have HO410:=n1_;have HO414:=n2_;have HK:=n3_;have HB:=n4_;have HI0:=n5_;clear n0_ n1_ n2_ n3_ n4_ n5_;(try clear hb);(try clear hb2);(try clear hk);(try clear hi);(try clear ho0);obtain ⟨Ao42,co42,eo42⟩:=Kd.R_slice HO414.out;subst eo42)|((with_reducible refine gate_builtin (b:=.append) (xs:=#[.tmp 36,.tmp 42]) rfl ?_);at_builtin;refine Kd.S_append k30 w.heap.size rfl (.tmp 36) (.tmp 42) 23 30 (.agg #[(.int .i64 0),(.slice none 0 0)]) 32 rfl Tryd.underlying23 info30 rfl (by decide) (by omega) v383 t382 (⟨9,t412⟩:S30) [.int .i64 9,.slice Ao42 t412.length co42] (fun k_=>some k_≠(.slice Ao40 t408.length co40:Value).ownBlock) (fun k_=>some k_=(.slice Ao42 t412.length co42:Value).ownBlock) rfl rfl ?aP (fun k_ hk_=>((Kd.R_mono (ok':=fun k_=>((fun k_=>some k_≠(.slice Ao40 t408.length co40:Value).ownBlock)) k_∧some k_≠(v383:Value).ownBlock) (Kd.R_apart' (HO414.out) (Kd.S_typed HO384.out) (by decide)) (fun k_ hk=>⟨hk.1.2,hk.2⟩))).1 k_ hk_.symm) ?aF ?aO (Below.refl _ _) ?aS ?aL ?_;(case aP=>exact k30_mkM _ _ _ (⟨9,t412⟩:S30) (Kd.R_mono (Kd.R_tight rfl (Kd.R_mono (ok':=fun k_=>((fun k_=>some k_≠(.slice Ao40 t408.length co40:Value).ownBlock)) k_∧some k_≠(v383:Value).ownBlock) (Kd.R_apart' (HO414.out) (Kd.S_typed HO384.out) (by decide)) (fun k_ hk=>⟨hk.1.2,hk.2⟩))) (fun _ h_=>h_)));(case aF=>exact (fun k_ hk=>Kd.fresh' (Kd.R_lt qz63) k_ hk));(case aO=>(with_reducible repeat (first|apply Kd.S_alloc|apply Kd.S_drewN|apply Kd.S_drew));exact Kd.S_mono HO384.out (fun k_ hk=>⟨hk.1.2,fun e_=>hk.2 e_⟩));(case aS=>exact (keep_size (w:=w) (g:=g) (row:=none) qz2));(case aL=>have:=LMc35.out;omega);intro v417 w43 ho hb hg hat;rw [← Ny416.out] at ho;have n0_:=Aside0.mk (IsS102.grown qz1 hg (IsS102.own_neS HI0.out HO384.out (by decide)));have n1_:=Aside0.mk (Kd.R_over' qz63 (Kd.S_typed qz22) (by decide) hg);have n2_:=Aside0.mk (below_weaken qz3 HL.out hb);have n3_:=Aside0.mk (KeepBut.trans qz2 (KeepBut.of_grown hg g) (Kd.S_base2 HO384.out));have n4_:=Aside0.mk (ho);clear HI0 HO410 HB HK HO384 HO414;have HI0:=n0_;have HO410:=n1_;have HB:=n2_;have HK:=n3_;have HO418:=n4_;clear n0_ n1_ n2_ n3_ n4_ ho hb hg hat))
      go_ret
      exact ⟨_,qz7,by (with_reducible repeat (first|apply Kd.S_alloc|apply Kd.S_drewN|apply Kd.S_drew));exact Kd.S_mono HO418.out (fun _ hk=>trivial),qz1,qz3,qz2⟩
     ·rw [if_neg c35] at H
      exact absurd H (by simp)
    ·rw [if_neg c32] at H
     have c32b0:(t388 == 2)=false:=beq_eq_false_iff_ne.mpr c32
     have c32b1:(t388 != 2)=true:=bne_iff_ne.mpr c32
     obtain ⟨y419,hy419⟩:∃ y_:List (S46),y_=(([(⟨1,8,(⟨#[]⟩:ByteArray)⟩:S46)]:List (S46))):=⟨_,rfl⟩
     replace H:(if t382.length<4398046511104 then ((some (t382++[(⟨7,y419⟩:S30)]:List (S30))).bind fun y422=>(if y422.length<4398046511104 then (some ((y422++[(⟨8,(([(⟨3,1,(⟨#[102]⟩:ByteArray)⟩:S46),(⟨1,7,(⟨#[]⟩:ByteArray)⟩:S46)]:List (S46)))⟩:S30)]),t389)) else (none))) else (none))=some (r1,r2):=by first|(rw [hy419];exact H)|exact H
     have Ny419:=Aside0.mk hy419
     clear hy419
     by_cases c44:t382.length<4398046511104
     ·rw [if_pos c44] at H
      have LMc44:=Aside0.mk c44
      clear c44
      obtain ⟨y422,hy422⟩:∃ y_:List (S30),y_=(t382++[(⟨7,y419⟩:S30)]):=⟨_,rfl⟩
      replace H:(if y422.length<4398046511104 then (some ((y422++[(⟨8,(([(⟨3,1,(⟨#[102]⟩:ByteArray)⟩:S46),(⟨1,7,(⟨#[]⟩:ByteArray)⟩:S46)]:List (S46)))⟩:S30)]),t389)) else (none))=some (r1,r2):=by first|(rw [hy422];exact H)|exact H
      have Ny422:=Aside0.mk hy422
      clear hy422
      obtain ⟨y425,hy425⟩:∃ y_:List (S46),y_=(([(⟨3,1,(⟨#[102]⟩:ByteArray)⟩:S46),(⟨1,7,(⟨#[]⟩:ByteArray)⟩:S46)]:List (S46))):=⟨_,rfl⟩
      replace H:(if y422.length<4398046511104 then (some ((y422++[(⟨8,y425⟩:S30)]),t389)) else (none))=some (r1,r2):=by first|(rw [hy425];exact H)|exact H
      have Ny425:=Aside0.mk hy425
      clear hy425
      by_cases c45:y422.length<4398046511104
      ·rw [if_pos c45] at H
       have LMc45:=Aside0.mk c45
       clear c45
       obtain ⟨y428,hy428⟩:∃ y_:List (S30),y_=(y422++[(⟨8,y425⟩:S30)]):=⟨_,rfl⟩
       replace H:(some (y428,t389))=some (r1,r2):=by first|(rw [hy428];exact H)|exact H
       have Ny428:=Aside0.mk hy428
       clear hy428
       simp only [Option.some.injEq,Prod.mk.injEq] at H
       obtain ⟨rfl,rfl⟩:=H
       go_enter Tryd.func51,Tryd.ntmps51
       go_wp2_with (first|(go_at_call 88;(with_reducible refine (spec_l20Binds.calls k g s0_0 s0_1 t382 t385 w0 _ ?side1 ?side2 A3.out).mono ?_);(case side1=>exact qz1);(case side2=>exact qz3);rintro e w46 ⟨v383,rfl,ho0,hi,hb,hk⟩;have n0_:=Aside0.mk (Kd.S_lower ho0 (keep_size (w:=w) (g:=g) (row:=none) qz2));have n1_:=Aside0.mk (KeepBut.trans qz2 hk (.inl rfl));have n2_:=Aside0.mk (hb);have n3_:=Aside0.mk (hi);clear HK HB HI0;have HO384:=n0_;have HK:=n1_;have HB:=n2_;have HI0:=n3_;clear n0_ n1_ n2_ n3_;(try clear hb);(try clear hb2);(try clear hk);(try clear hi);(try clear ho0))|(go_at_call 89;(with_reducible refine (spec_l20Rd_odd.calls k g s0_0 t385 a1 true t387 w0 _ ?side1 ?side2 A4.out).mono ?_);(case side1=>exact qz1);(case side2=>exact qz3);rintro e w47 ⟨rfl,hi,hb,hk⟩;have n0_:=Aside0.mk (Kd.S_mono (Kd.S_keep (IsS102.apartS (show IsS102 w0 _ g s0_0 t385 from qz1) qz22 (by decide)) hk (fun _ h=>h.2)) (fun _ h=>h.1));have n1_:=Aside0.mk (KeepBut.trans qz2 hk (.inl rfl));have n2_:=Aside0.mk (hb);have n3_:=Aside0.mk (hi);clear HO384 HK HB HI0;have HO384:=n0_;have HK:=n1_;have HB:=n2_;have HI0:=n3_;clear n0_ n1_ n2_ n3_;(try clear hb);(try clear hb2);(try clear hk);(try clear hi))|(go_at_call 52;(with_reducible refine (spec_l20Rd_pick.calls k g s0_0 t387 4 t388 t389 w0 _ ?side1 ?side2 A6.out).mono ?_);(case side1=>exact qz1);(case side2=>exact qz3);rintro e w48 ⟨rfl,hi,hb,hk⟩;have n0_:=Aside0.mk (Kd.S_mono (Kd.S_keep (IsS102.apartS (show IsS102 w0 _ g s0_0 t387 from qz1) qz22 (by decide)) hk (fun _ h=>h.2)) (fun _ h=>h.1));have n1_:=Aside0.mk (KeepBut.trans qz2 hk (.inl rfl));have n2_:=Aside0.mk (hb);have n3_:=Aside0.mk (hi);clear HO384 HK HB HI0;have HO384:=n0_;have HK:=n1_;have HB:=n2_;have HI0:=n3_;clear n0_ n1_ n2_ n3_;(try clear hb);(try clear hb2);(try clear hk);(try clear hi))|((with_reducible refine gate_dst (N:=46) rfl ?_);refine Kd.R_lit k46 _ 46 ?hg (N:=46) ?hd (xs:=([(⟨1,8,(⟨#[]⟩:ByteArray)⟩:S46)]:List (S46))) (inner:=[.int .i64 1,.int .i64 8,.string (⟨#[]⟩:ByteArray)]) (ok:=fun _=>True) (okp:=fun _=>True) ?hr ?hp (fun _ hk=>hk) trivial (Below.refl _ _) (Nat.le_refl _) (by simp) ?_;(case hd=>rfl);(case hg=>rfl);(case hr=>first|(go_simp;done)|(go_simp;rfl));(case hp=>exact (Reps.c3 (show Kd.M k46 _ _ _ (⟨1,8,(⟨#[]⟩:ByteArray)⟩:S46) [.int .i64 1,.int .i64 8,.string (⟨#[]⟩:ByteArray)] from (k46_mkM _ _ _ (⟨1,8,(⟨#[]⟩:ByteArray)⟩:S46) )) (Reps.none _ _)));intro v420 w49 ho50 hb hg_ hnew_;clear hg_ hnew_;(first|rw [← Ny419.out] at ho50|(simp only [Int.reduceToNat] at ho50;rw [← Ny419.out] at ho50));have n0_:=Aside0.mk (Kd.S_elder' qz22 (Kd.R_base ho50) hb);have n1_:=Aside0.mk (Kd.R_lower ho50 (keep_size (w:=w) (g:=g) (row:=none) qz2));have n2_:=Aside0.mk (IsS102.below qz1 hb);have n3_:=Aside0.mk (KeepBut.trans qz2 (KeepBut.of_below hb g none) (.inl rfl));have n4_:=Aside0.mk (below_step qz3 hb);clear HO384 HI0 HK HB;have HO384:=n0_;have HO421:=n1_;have HI0:=n2_;have HK:=n3_;have HB:=n4_;clear n0_ n1_ n2_ n3_ n4_ hb ho50;obtain ⟨Ao51,co51,eo51⟩:=Kd.R_slice HO421.out;subst eo51)|((with_reducible refine gate_builtin (b:=.append) (xs:=#[.tmp 44,.tmp 48]) rfl ?_);at_builtin;refine Kd.S_append k30 w.heap.size rfl (.tmp 44) (.tmp 48) 23 30 (.agg #[(.int .i64 0),(.slice none 0 0)]) 32 rfl Tryd.underlying23 info30 rfl (by decide) (by omega) v383 t382 (⟨7,y419⟩:S30) [.int .i64 7,.slice Ao51 y419.length co51] (fun _=>True) (fun k_=>some k_=(.slice Ao51 y419.length co51:Value).ownBlock) rfl rfl ?aP (fun k_ hk_=>((Kd.R_mono (ok':=fun k_=>((fun _=>True)) k_∧some k_≠(v383:Value).ownBlock) (Kd.R_apart' (HO421.out) (Kd.S_typed HO384.out) (by decide)) (fun k_ hk=>⟨trivial,hk.2⟩))).1 k_ hk_.symm) ?aF ?aO (Below.refl _ _) ?aS ?aL ?_;(case aP=>exact k30_mkM _ _ _ (⟨7,y419⟩:S30) (Kd.R_mono (Kd.R_tight rfl (Kd.R_mono (ok':=fun k_=>((fun _=>True)) k_∧some k_≠(v383:Value).ownBlock) (Kd.R_apart' (HO421.out) (Kd.S_typed HO384.out) (by decide)) (fun k_ hk=>⟨trivial,hk.2⟩))) (fun _ h_=>h_)));(case aF=>exact (fun _ _=>trivial));(case aO=>exact qz72);(case aS=>exact (keep_size (w:=w) (g:=g) (row:=none) qz2));(case aL=>have:=LMc44.out;omega);intro v423 w52 ho hb hg hat;rw [← Ny422.out] at ho;have n0_:=Aside0.mk (IsS102.grown qz1 hg (IsS102.own_neS HI0.out HO384.out (by decide)));have n1_:=Aside0.mk (below_weaken qz3 HL.out hb);have n2_:=Aside0.mk (KeepBut.trans qz2 (KeepBut.of_grown hg g) (Kd.S_base2 HO384.out));have n3_:=Aside0.mk (ho);clear HI0 HB HK HO384 HO421;have HI0:=n0_;have HB:=n1_;have HK:=n2_;have HO424:=n3_;clear n0_ n1_ n2_ n3_ ho hb hg hat)|((with_reducible refine gate_dst (N:=52) rfl ?_);refine Kd.R_lit k46 _ 46 ?hg (N:=52) ?hd (xs:=([(⟨3,1,(⟨#[102]⟩:ByteArray)⟩:S46),(⟨1,7,(⟨#[]⟩:ByteArray)⟩:S46)]:List (S46))) (inner:=[.int .i64 3,.int .i64 1,.string (⟨#[102]⟩:ByteArray),.int .i64 1,.int .i64 7,.string (⟨#[]⟩:ByteArray)]) (ok:=fun _=>True) (okp:=fun _=>True) ?hr ?hp (fun _ hk=>hk) trivial (Below.refl _ _) (Nat.le_refl _) (by simp) ?_;(case hd=>rfl);(case hg=>rfl);(case hr=>first|(go_simp;done)|(go_simp;rfl));(case hp=>exact (Reps.c3 (show Kd.M k46 _ _ _ (⟨3,1,(⟨#[102]⟩:ByteArray)⟩:S46) [.int .i64 3,.int .i64 1,.string (⟨#[102]⟩:ByteArray)] from (k46_mkM _ _ _ (⟨3,1,(⟨#[102]⟩:ByteArray)⟩:S46) )) (Reps.c3 (show Kd.M k46 _ _ _ (⟨1,7,(⟨#[]⟩:ByteArray)⟩:S46) [.int .i64 1,.int .i64 7,.string (⟨#[]⟩:ByteArray)] from (k46_mkM _ _ _ (⟨1,7,(⟨#[]⟩:ByteArray)⟩:S46) )) (Reps.none _ _))));intro v426 w53 ho54 hb hg_ hnew_;clear hg_ hnew_;(first|rw [← Ny425.out] at ho54|(simp only [Int.reduceToNat] at ho54;rw [← Ny425.out] at ho54));have n0_:=Aside0.mk (Kd.S_elder' (by (with_reducible repeat (first|apply Kd.S_alloc|apply Kd.S_drewN|apply Kd.S_drew));exact HO424.out) (Kd.R_base ho54) hb);have n1_:=Aside0.mk (Kd.R_lower ho54 (keep_size (w:=w) (g:=g) (row:=none) qz2));have n2_:=Aside0.mk (IsS102.below qz1 hb);have n3_:=Aside0.mk (KeepBut.trans qz2 (KeepBut.of_below hb g none) (.inl rfl));have n4_:=Aside0.mk (below_step qz3 hb);clear HO424 HI0 HK HB;have HO424:=n0_;have HO427:=n1_;have HI0:=n2_;have HK:=n3_;have HB:=n4_;clear n0_ n1_ n2_ n3_ n4_ hb ho54;obtain ⟨Ao55,co55,eo55⟩:=Kd.R_slice HO427.out;subst eo55)|((with_reducible refine gate_builtin (b:=.append) (xs:=#[.tmp 49,.tmp 54]) rfl ?_);at_builtin;refine Kd.S_append k30 w.heap.size rfl (.tmp 49) (.tmp 54) 23 30 (.agg #[(.int .i64 0),(.slice none 0 0)]) 32 rfl Tryd.underlying23 info30 rfl (by decide) (by omega) v423 y422 (⟨8,y425⟩:S30) [.int .i64 8,.slice Ao55 y425.length co55] (fun _=>True) (fun k_=>some k_=(.slice Ao55 y425.length co55:Value).ownBlock) rfl rfl ?aP (fun k_ hk_=>((Kd.R_mono (ok':=fun k_=>((fun _=>True)) k_∧some k_≠(v423:Value).ownBlock) (Kd.R_apart' (HO427.out) (Kd.S_typed HO424.out) (by decide)) (fun k_ hk=>⟨trivial,hk.2⟩))).1 k_ hk_.symm) ?aF ?aO (Below.refl _ _) ?aS ?aL ?_;(case aP=>exact k30_mkM _ _ _ (⟨8,y425⟩:S30) (Kd.R_mono (Kd.R_tight rfl (Kd.R_mono (ok':=fun k_=>((fun _=>True)) k_∧some k_≠(v423:Value).ownBlock) (Kd.R_apart' (HO427.out) (Kd.S_typed HO424.out) (by decide)) (fun k_ hk=>⟨trivial,hk.2⟩))) (fun _ h_=>h_)));(case aF=>exact (fun _ _=>trivial));(case aO=>(with_reducible repeat (first|apply Kd.S_alloc|apply Kd.S_drewN|apply Kd.S_drew));exact Kd.S_mono HO424.out (fun k_ hk=>⟨trivial,fun e_=>hk.2 e_⟩));(case aS=>exact (keep_size (w:=w) (g:=g) (row:=none) qz2));(case aL=>have:=LMc45.out;omega);intro v429 w56 ho hb hg hat;rw [← Ny428.out] at ho;have n0_:=Aside0.mk (IsS102.grown qz1 hg (IsS102.own_neS HI0.out HO424.out (by decide)));have n1_:=Aside0.mk (below_weaken qz3 HL.out hb);have n2_:=Aside0.mk (KeepBut.trans qz2 (KeepBut.of_grown hg g) (Kd.S_base2 HO424.out));have n3_:=Aside0.mk (ho);clear HI0 HB HK HO424 HO427;have HI0:=n0_;have HB:=n1_;have HK:=n2_;have HO430:=n3_;clear n0_ n1_ n2_ n3_ ho hb hg hat))
       go_ret
       exact ⟨_,qz7,by (with_reducible repeat (first|apply Kd.S_alloc|apply Kd.S_drewN|apply Kd.S_drew));exact HO430.out,qz1,qz3,qz2⟩
      ·rw [if_neg c45] at H
       exact absurd H (by simp)
     ·rw [if_neg c44] at H
      exact absurd H (by simp)
 ·replace c5:=Bool.eq_false_iff.mpr c5
  subst c5
  have H1:(some (t382,t387))=some (r1,r2):=qz20
  clear H
  have H:=H1
  clear H1
  simp only [Option.some.injEq,Prod.mk.injEq] at H
  obtain ⟨rfl,rfl⟩:=H
  go_enter Tryd.func51,Tryd.ntmps51
  go_wp2_with (first|(go_at_call 88;(with_reducible refine (spec_l20Binds.calls k g s0_0 s0_1 t382 t385 w0 _ ?side1 ?side2 A3.out).mono ?_);(case side1=>exact qz1);(case side2=>exact qz3);rintro e w57 ⟨v383,rfl,ho0,hi,hb,hk⟩;have n0_:=Aside0.mk (Kd.S_lower ho0 (keep_size (w:=w) (g:=g) (row:=none) qz2));have n1_:=Aside0.mk (KeepBut.trans qz2 hk (.inl rfl));have n2_:=Aside0.mk (hb);have n3_:=Aside0.mk (hi);clear HK HB HI0;have HO384:=n0_;have HK:=n1_;have HB:=n2_;have HI0:=n3_;clear n0_ n1_ n2_ n3_;(try clear hb);(try clear hb2);(try clear hk);(try clear hi);(try clear ho0))|(go_at_call 89;(with_reducible refine (spec_l20Rd_odd.calls k g s0_0 t385 a1 false t387 w0 _ ?side1 ?side2 A4.out).mono ?_);(case side1=>exact qz1);(case side2=>exact qz3);rintro e w58 ⟨rfl,hi,hb,hk⟩;have n0_:=Aside0.mk (Kd.S_mono (Kd.S_keep (IsS102.apartS (show IsS102 w0 _ g s0_0 t385 from qz1) qz22 (by decide)) hk (fun _ h=>h.2)) (fun _ h=>h.1));have n1_:=Aside0.mk (KeepBut.trans qz2 hk (.inl rfl));have n2_:=Aside0.mk (hb);have n3_:=Aside0.mk (hi);clear HO384 HK HB HI0;have HO384:=n0_;have HK:=n1_;have HB:=n2_;have HI0:=n3_;clear n0_ n1_ n2_ n3_;(try clear hb);(try clear hb2);(try clear hk);(try clear hi)))
  go_ret
  exact ⟨_,qz7,qz22,qz1,qz3,qz2⟩
def spec_l20TermOr.f (k:Nat) (s0_0:List Int) (s0_1:Int) (a1:Int):Option ((List (S46)) × Int):=(some (([3,8,20,40]:List Int):List Int)).bind fun y431=>((spec_l20Rd_pick.f k s0_0 s0_1 4).bind fun bt434=>(if 0≤bt434.1 then (if bt434.1<(y431.length:Int) then ((spec_l20Term.f k s0_0 bt434.2 (rd y431 bt434.1) 4).bind fun bt437=>((spec_l20Rd_odd.f k s0_0 bt437.2 a1).bind fun bt441=>(if bt441.1=true then ((spec_l20Spoil.f k s0_0 bt441.2 bt437.1).bind fun bt443=>(some (bt443.1,bt443.2))) else (some (bt437.1,bt441.2))))) else (none)) else (none)))
set_option maxHeartbeats 8000000 in
set_option maxRecDepth 100000 in
theorem spec_l20TermOr.calls (k:Nat) (g:Nat) (s0_0:List Int) (s0_1:Int) (a1:Int) (r1:List (S46)) (r2:Int) (w0 w:World) (hI:IsS102 w0 w g s0_0 s0_1) (hB:Below w0.heap.size w0 w) (h:spec_l20TermOr.f k s0_0 s0_1 a1=some (r1,r2)) :
  Calls Tryd.prog 66 #[.pointer (some ⟨g,0,none⟩),.int .i64 a1] w fun e w'=>∃ v0_:Value,e = .returned (v0_)∧Kd.R k46 46 w' w.heap.size (fun _=>True) v0_ r1∧IsS102 w0 w' g s0_0 r2∧Below w0.heap.size w0 w'∧KeepBut w w' g none:=by
 have HI0:=Aside0.mk hI
 have HK:=Aside0.mk (KeepBut.refl w g none)
 have HL:=Aside0.mk hB.size
 clear hI
 have HW0:=Aside0.mk hB.size
 have HB:=Aside0.mk hB
 clear hB
 have H:((some (([3,8,20,40]:List Int):List Int)).bind fun y431=>((spec_l20Rd_pick.f k s0_0 s0_1 4).bind fun bt434=>(if 0≤bt434.1 then (if bt434.1<(y431.length:Int) then ((spec_l20Term.f k s0_0 bt434.2 (rd y431 bt434.1) 4).bind fun bt437=>((spec_l20Rd_odd.f k s0_0 bt437.2 a1).bind fun bt441=>(if bt441.1=true then ((spec_l20Spoil.f k s0_0 bt441.2 bt437.1).bind fun bt443=>(some (bt443.1,bt443.2))) else (some (bt437.1,bt441.2))))) else (none)) else (none))))=some (r1,r2):=h
 clear h
 obtain ⟨y431,hy431⟩:∃ y_:List Int,y_=(([3,8,20,40]:List Int)):=⟨_,rfl⟩
 replace H:((spec_l20Rd_pick.f k s0_0 s0_1 4).bind fun bt434=>(if 0≤bt434.1 then (if bt434.1<(y431.length:Int) then ((spec_l20Term.f k s0_0 bt434.2 (rd y431 bt434.1) 4).bind fun bt437=>((spec_l20Rd_odd.f k s0_0 bt437.2 a1).bind fun bt441=>(if bt441.1=true then ((spec_l20Spoil.f k s0_0 bt441.2 bt437.1).bind fun bt443=>(some (bt443.1,bt443.2))) else (some (bt437.1,bt441.2))))) else (none)) else (none)))=some (r1,r2):=by first|(rw [hy431];exact H)|exact H
 have Ny431:=Aside0.mk hy431
 clear hy431
 replace H:=Option.bind_eq_some_iff.mp H
 obtain ⟨⟨t434,t435⟩,A30,H⟩:=H
 try dsimp only at H
 have A3:=Aside0.mk A30
 clear A30
 by_cases c4:0≤t434
 ·rw [if_pos c4] at H
  have c4b0:decide (0≤t434)=true:=decide_eq_true c4
  clear c4
  by_cases c5:t434<(y431.length:Int)
  ·rw [if_pos c5] at H
   have c5b0:decide (t434<(y431.length:Int))=true:=decide_eq_true c5
   clear c5
   replace H:=Option.bind_eq_some_iff.mp H
   obtain ⟨⟨t437,t440⟩,A60,H⟩:=H
   try dsimp only at H
   have A6:=Aside0.mk A60
   clear A60
   replace H:=Option.bind_eq_some_iff.mp H
   obtain ⟨⟨t441,t442⟩,A70,H⟩:=H
   try dsimp only at H
   have A7:=Aside0.mk A70
   clear A70
   by_cases c8:t441=true
   ·subst c8
    have H1:((spec_l20Spoil.f k s0_0 t442 t437).bind fun bt443=>(some (bt443.1,bt443.2)))=some (r1,r2):=qz40
    clear H
    have H:=H1
    clear H1
    replace H:=Option.bind_eq_some_iff.mp H
    obtain ⟨⟨t443,t446⟩,A90,H⟩:=H
    try dsimp only at H
    have A9:=Aside0.mk A90
    clear A90
    simp only [Option.some.injEq,Prod.mk.injEq] at H
    obtain ⟨rfl,rfl⟩:=H
    go_enter Tryd.func66,Tryd.ntmps66
    go_wp2_with (first|((with_reducible refine gate_dst (N:=7) rfl ?_);refine Kd.R_lit (Kd.int .i64) _ 3 ?hg (N:=7) ?hd (xs:=([3,8,20,40]:List Int)) (inner:=[.int .i64 3,.int .i64 8,.int .i64 20,.int .i64 40]) (ok:=fun _=>True) (okp:=fun _=>True) ?hr ?hp (fun _ hk=>hk) trivial (Below.refl _ _) (Nat.le_refl _) (by simp) ?_;(case hd=>rfl);(case hg=>rfl);(case hr=>first|(go_simp;done)|(go_simp;rfl));(case hp=>exact (Reps.one (show Kd.M (Kd.int .i64) _ _ _ 3 [.int .i64 3] from rfl) (Reps.one (show Kd.M (Kd.int .i64) _ _ _ 8 [.int .i64 8] from rfl) (Reps.one (show Kd.M (Kd.int .i64) _ _ _ 20 [.int .i64 20] from rfl) (Reps.one (show Kd.M (Kd.int .i64) _ _ _ 40 [.int .i64 40] from rfl) (Reps.none _ _))))));intro v432 w10 ho11 hb hg_ hnew_;clear hg_ hnew_;(first|rw [← Ny431.out] at ho11|(simp only [Int.reduceToNat] at ho11;rw [← Ny431.out] at ho11));have n0_:=Aside0.mk (Kd.R_lower ho11 (keep_size (w:=w) (g:=g) (row:=none) qz2));have n1_:=Aside0.mk (IsS102.below qz1 hb);have n2_:=Aside0.mk (KeepBut.trans qz2 (KeepBut.of_below hb g none) (.inl rfl));have n3_:=Aside0.mk (below_step qz3 hb);clear HI0 HK HB;have HO433:=n0_;have HI0:=n1_;have HK:=n2_;have HB:=n3_;clear n0_ n1_ n2_ n3_ hb ho11)|(go_at_call 52;(with_reducible refine (spec_l20Rd_pick.calls k g s0_0 s0_1 4 t434 t435 w0 _ ?side1 ?side2 A3.out).mono ?_);(case side1=>exact qz1);(case side2=>exact qz3);rintro e w12 ⟨rfl,hi,hb,hk⟩;have n0_:=Aside0.mk (Kd.R_mono (Kd.R_keep (IsS102.apart (show IsS102 w0 _ g s0_0 s0_1 from qz1) qz55 (by decide)) hk (fun _ h=>h.2)) (fun _ h=>h.1));have n1_:=Aside0.mk (KeepBut.trans qz2 hk (.inl rfl));have n2_:=Aside0.mk (hb);have n3_:=Aside0.mk (hi);clear HO433 HK HB HI0;have HO433:=n0_;have HK:=n1_;have HB:=n2_;have HI0:=n3_;clear n0_ n1_ n2_ n3_;(try clear hb);(try clear hb2);(try clear hk);(try clear hi);obtain ⟨Ao13,co13,eo13⟩:=Kd.R_slice HO433.out;subst eo13;have p436:0≤(t434:Int):=of_decide_eq_true qz6;have q436:t434<(y431.length:Int):=of_decide_eq_true qz6;obtain ⟨ad436,e436,hx436_0⟩:=Kd.at_int (Kd.R_reads' HO433.out).2.2 t434 p436 q436;cases e436;replace p436:=eq_true p436;replace q436:=eq_true q436)|(go_at_call 91;(with_reducible refine (spec_l20Term.calls k g s0_0 t435 (rd y431 t434) 4 t437 t440 w0 _ ?side1 ?side2 A6.out).mono ?_);(case side1=>exact qz1);(case side2=>exact qz3);rintro e w14 ⟨v438,rfl,ho0,hi,hb,hk⟩;have n0_:=Aside0.mk (Kd.R_mono (Kd.R_keep (IsS102.apart (show IsS102 w0 _ g s0_0 t435 from qz1) qz55 (by decide)) hk (fun _ h=>h.2)) (fun _ h=>h.1));have n1_:=Aside0.mk (Kd.R_lower ho0 (keep_size (w:=w) (g:=g) (row:=none) qz2));have n2_:=Aside0.mk (KeepBut.trans qz2 hk (.inl rfl));have n3_:=Aside0.mk (hb);have n4_:=Aside0.mk (hi);clear HO433 HK HB HI0;have HO433:=n0_;have HO439:=n1_;have HK:=n2_;have HB:=n3_;have HI0:=n4_;clear n0_ n1_ n2_ n3_ n4_;(try clear hb);(try clear hb2);(try clear hk);(try clear hi);(try clear ho0))|(go_at_call 89;(with_reducible refine (spec_l20Rd_odd.calls k g s0_0 t440 a1 true t442 w0 _ ?side1 ?side2 A7.out).mono ?_);(case side1=>exact qz1);(case side2=>exact qz3);rintro e w15 ⟨rfl,hi,hb,hk⟩;have n0_:=Aside0.mk (Kd.R_mono (Kd.R_keep (IsS102.apart (show IsS102 w0 _ g s0_0 t440 from qz1) qz55 (by decide)) hk (fun _ h=>h.2)) (fun _ h=>h.1));have n1_:=Aside0.mk (Kd.R_mono (Kd.R_keep (IsS102.apart (show IsS102 w0 _ g s0_0 t440 from qz1) qz59 (by decide)) hk (fun _ h=>h.2)) (fun _ h=>h.1));have n2_:=Aside0.mk (KeepBut.trans qz2 hk (.inl rfl));have n3_:=Aside0.mk (hb);have n4_:=Aside0.mk (hi);clear HO433 HO439 HK HB HI0;have HO433:=n0_;have HO439:=n1_;have HK:=n2_;have HB:=n3_;have HI0:=n4_;clear n0_ n1_ n2_ n3_ n4_;(try clear hb);(try clear hb2);(try clear hk);(try clear hi);obtain ⟨Ao16,co16,eo16⟩:=Kd.R_slice HO439.out;subst eo16)|(go_at_call 90;(with_reducible refine (spec_l20Spoil.calls k g s0_0 t442 _ _ t437 t443 t446 w0 _ ?side1 ?side2 ?side3 ?side4 A9.out).mono ?_);(case side1=>exact qz1);(case side2=>exact qz3);(case side3=>exact Kd.C_foot_own (IsS102.apart (show IsS102 w0 _ g s0_0 t442 from qz1) qz59 (by decide)) (fun _ h_=>h_.2));(case side4=>exact (Kd.R_reads' HO439.out).2.1);rintro e w17 ⟨v444,rfl,ho0,hi,hb,hk⟩;have n0_:=Aside0.mk (Kd.R_mono (Kd.R_keep (IsS102.apart (show IsS102 w0 _ g s0_0 t442 from qz1) qz55 (by decide)) hk (fun _ h=>h.2)) (fun _ h=>h.1));have n1_:=Aside0.mk (Kd.R_mono (Kd.R_told (Kd.R_oldK (IsS102.apart (show IsS102 w0 _ g s0_0 t442 from qz1) qz59 (by decide)) hk) (Kd.R_base ho0)) (fun _ h_=>h_.1));have n2_:=Aside0.mk (Kd.R_lower (Kd.R_new' ho0 (Kd.R_lt qz59)) (keep_size (w:=w) (g:=g) (row:=none) qz2));have n3_:=Aside0.mk (KeepBut.trans qz2 hk (.inl rfl));have n4_:=Aside0.mk (hb);have n5_:=Aside0.mk (hi);clear HO433 HO439 HK HB HI0;have HO433:=n0_;have HO439:=n1_;have HO445:=n2_;have HK:=n3_;have HB:=n4_;have HI0:=n5_;clear n0_ n1_ n2_ n3_ n4_ n5_;(try clear hb);(try clear hb2);(try clear hk);(try clear hi);(try clear ho0)))
    go_ret
    exact ⟨_,qz7,by (with_reducible repeat (first|apply Kd.R_alloc|apply Kd.R_drewN|apply Kd.R_drew));exact Kd.R_mono HO445.out (fun _ hk=>trivial),qz1,qz3,qz2⟩
   ·replace c8:=Bool.eq_false_iff.mpr c8
    subst c8
    have H1:(some (t437,t442))=some (r1,r2):=qz20
    clear H
    have H:=H1
    clear H1
    simp only [Option.some.injEq,Prod.mk.injEq] at H
    obtain ⟨rfl,rfl⟩:=H
    go_enter Tryd.func66,Tryd.ntmps66
    go_wp2_with (first|((with_reducible refine gate_dst (N:=7) rfl ?_);refine Kd.R_lit (Kd.int .i64) _ 3 ?hg (N:=7) ?hd (xs:=([3,8,20,40]:List Int)) (inner:=[.int .i64 3,.int .i64 8,.int .i64 20,.int .i64 40]) (ok:=fun _=>True) (okp:=fun _=>True) ?hr ?hp (fun _ hk=>hk) trivial (Below.refl _ _) (Nat.le_refl _) (by simp) ?_;(case hd=>rfl);(case hg=>rfl);(case hr=>first|(go_simp;done)|(go_simp;rfl));(case hp=>exact (Reps.one (show Kd.M (Kd.int .i64) _ _ _ 3 [.int .i64 3] from rfl) (Reps.one (show Kd.M (Kd.int .i64) _ _ _ 8 [.int .i64 8] from rfl) (Reps.one (show Kd.M (Kd.int .i64) _ _ _ 20 [.int .i64 20] from rfl) (Reps.one (show Kd.M (Kd.int .i64) _ _ _ 40 [.int .i64 40] from rfl) (Reps.none _ _))))));intro v432 w18 ho19 hb hg_ hnew_;clear hg_ hnew_;(first|rw [← Ny431.out] at ho19|(simp only [Int.reduceToNat] at ho19;rw [← Ny431.out] at ho19));have n0_:=Aside0.mk (Kd.R_lower ho19 (keep_size (w:=w) (g:=g) (row:=none) qz2));have n1_:=Aside0.mk (IsS102.below qz1 hb);have n2_:=Aside0.mk (KeepBut.trans qz2 (KeepBut.of_below hb g none) (.inl rfl));have n3_:=Aside0.mk (below_step qz3 hb);clear HI0 HK HB;have HO433:=n0_;have HI0:=n1_;have HK:=n2_;have HB:=n3_;clear n0_ n1_ n2_ n3_ hb ho19)|(go_at_call 52;(with_reducible refine (spec_l20Rd_pick.calls k g s0_0 s0_1 4 t434 t435 w0 _ ?side1 ?side2 A3.out).mono ?_);(case side1=>exact qz1);(case side2=>exact qz3);rintro e w20 ⟨rfl,hi,hb,hk⟩;have n0_:=Aside0.mk (Kd.R_mono (Kd.R_keep (IsS102.apart (show IsS102 w0 _ g s0_0 s0_1 from qz1) qz55 (by decide)) hk (fun _ h=>h.2)) (fun _ h=>h.1));have n1_:=Aside0.mk (KeepBut.trans qz2 hk (.inl rfl));have n2_:=Aside0.mk (hb);have n3_:=Aside0.mk (hi);clear HO433 HK HB HI0;have HO433:=n0_;have HK:=n1_;have HB:=n2_;have HI0:=n3_;clear n0_ n1_ n2_ n3_;(try clear hb);(try clear hb2);(try clear hk);(try clear hi);obtain ⟨Ao21,co21,eo21⟩:=Kd.R_slice HO433.out;subst eo21;have p436:0≤(t434:Int):=of_decide_eq_true qz6;have q436:t434<(y431.length:Int):=of_decide_eq_true qz6;obtain ⟨ad436,e436,hx436_0⟩:=Kd.at_int (Kd.R_reads' HO433.out).2.2 t434 p436 q436;cases e436;replace p436:=eq_true p436;replace q436:=eq_true q436)|(go_at_call 91;(with_reducible refine (spec_l20Term.calls k g s0_0 t435 (rd y431 t434) 4 t437 t440 w0 _ ?side1 ?side2 A6.out).mono ?_);(case side1=>exact qz1);(case side2=>exact qz3);rintro e w22 ⟨v438,rfl,ho0,hi,hb,hk⟩;have n0_:=Aside0.mk (Kd.R_mono (Kd.R_keep (IsS102.apart (show IsS102 w0 _ g s0_0 t435 from qz1) qz55 (by decide)) hk (fun _ h=>h.2)) (fun _ h=>h.1));have n1_:=Aside0.mk (Kd.R_lower ho0 (keep_size (w:=w) (g:=g) (row:=none) qz2));have n2_:=Aside0.mk (KeepBut.trans qz2 hk (.inl rfl));have n3_:=Aside0.mk (hb);have n4_:=Aside0.mk (hi);clear HO433 HK HB HI0;have HO433:=n0_;have HO439:=n1_;have HK:=n2_;have HB:=n3_;have HI0:=n4_;clear n0_ n1_ n2_ n3_ n4_;(try clear hb);(try clear hb2);(try clear hk);(try clear hi);(try clear ho0))|(go_at_call 89;(with_reducible refine (spec_l20Rd_odd.calls k g s0_0 t440 a1 false t442 w0 _ ?side1 ?side2 A7.out).mono ?_);(case side1=>exact qz1);(case side2=>exact qz3);rintro e w23 ⟨rfl,hi,hb,hk⟩;have n0_:=Aside0.mk (Kd.R_mono (Kd.R_keep (IsS102.apart (show IsS102 w0 _ g s0_0 t440 from qz1) qz55 (by decide)) hk (fun _ h=>h.2)) (fun _ h=>h.1));have n1_:=Aside0.mk (Kd.R_mono (Kd.R_keep (IsS102.apart (show IsS102 w0 _ g s0_0 t440 from qz1) qz59 (by decide)) hk (fun _ h=>h.2)) (fun _ h=>h.1));have n2_:=Aside0.mk (KeepBut.trans qz2 hk (.inl rfl));have n3_:=Aside0.mk (hb);have n4_:=Aside0.mk (hi);clear HO433 HO439 HK HB HI0;have HO433:=n0_;have HO439:=n1_;have HK:=n2_;have HB:=n3_;have HI0:=n4_;clear n0_ n1_ n2_ n3_ n4_;(try clear hb);(try clear hb2);(try clear hk);(try clear hi)))
    go_ret
    exact ⟨_,qz7,qz59,qz1,qz3,qz2⟩
  ·rw [if_neg c5] at H
   exact absurd H (by simp)
 ·rw [if_neg c4] at H
  exact absurd H (by simp)
def spec_l20Near.l0:Nat→List (S46)→List (S46)→Int→List Int→Int→Option ((List (S46)) × Int)
 | 0,_,_,_,_,_=>none
 | k+1,t,out,i,b,p=>if i<(t.length:Int) then (spec_l1End.f k t i).bind fun e0=>if e0<0 then some (t,p) else (spec_l20Rd_pick.f k b p 4).bind fun x=>if x.1=0 then (spec_l20Rd_pick.f k b x.2 8).bind fun y=>if out.length<4398046511104 then spec_l20Near.l0 k t (out++[⟨1,y.1,⟨#[]⟩⟩]) e0 b y.2 else none
   else if 0≤i∧out.length<4398046511104 then spec_l20Near.l0 k t (out++[rd_T46 t i]) (wrap64 (i+1)) b x.2 else none else some (out,p)
def spec_l20Near.f (k:Nat) (s0_0:List Int) (s0_1:Int) (l1:List (S46)):Option ((List (S46)) × Int):=spec_l20Near.l0 k l1 [] 0 s0_0 s0_1
structure NLoop (w0 w wr:World) (g:Nat) (b:List Int) (p:Int) (P:Nat→Prop) (u v5:Value) (t x:List Cat.Cell):Prop where
 mO:Kd.R k46 46 wr w.heap.size (fun _=>True) v5 x
 mA:Kd.R k46 46 wr w0.heap.size (fun k=>(P k∧k≠g)∧k<w.heap.size) u t
 mI:IsS102 w0 wr g b p
 mB:Below w0.heap.size w0 wr
 mK:KeepBut w wr g none
section
variable {w0 w wr w' : World} {g : Nat} {b : List Int} {p p' : Int} {P : Nat → Prop} {u v5 v' : Value} {t x x' : List Cat.Cell}
theorem NLoop.drew (h:NLoop w0 w wr g b p P u v5 t x) (n:Nat):NLoop w0 w (wr.drewN n) g b p P u v5 t x:=
 ⟨Kd.R_below h.mO (pw_below_drewN (Below.refl _ _) n),Kd.R_below h.mA (pw_below_drewN (Below.refl _ _) n),h.mI.below (pw_below_drewN (Below.refl _ _) n),pw_below_drewN h.mB n,⟨h.mK.1,h.mK.2⟩⟩
theorem NLoop.keep (h:NLoop w0 w wr g b p P u v5 t x) (hgl:g<w.heap.size) (hi:IsS102 w0 w' g b p') (hb:Below w0.heap.size w0 w') (hk:KeepBut wr w' g none):NLoop w0 w w' g b p' P u v5 t x:=
 ⟨Kd.R_mono (Kd.R_keep (ok:=fun k=>w.heap.size≤k) (Kd.R_mono (Kd.R_bound h.mO) (fun k hk=>hk.2.1)) hk (fun k hk=>by omega)) (fun _ _=>trivial),Kd.R_keep h.mA hk (fun k hk=>hk.1.2),hi,hb,
  ⟨Nat.le_trans h.mK.1 hk.1,fun i hi hn hr=>(hk.2 i (Nat.lt_of_lt_of_le hi h.mK.1) hn (by simp)).trans (h.mK.2 i hi hn (by simp))⟩⟩
theorem NLoop.row (h:NLoop w0 w wr g b p P u v5 t x) (hgl:g<w.heap.size) (hw:w0.heap.size≤w.heap.size) (ho:Kd.R k46 46 w' w.heap.size (fun _=>True) v' x') (hg:wr.grownBy w' v5.ownBlock):NLoop w0 w w' g b p P u v' t x':=by
 have hv:∀ k,v5.ownBlock=some k→w.heap.size≤k:=fun k e=>Kd.R_base h.mO k e
 exact ⟨ho,Kd.R_step h.mA (fun k hk hlt=>hg.block k hlt (fun e=>by have:=hv k e.symm;have:=hk.2;omega)),h.mI.grown hg (fun e=>by have:=hv g e.symm;omega),h.mB.grown hg (Nat.le_trans hw h.mK.1) (fun k e=>Nat.le_trans hw (hv k e)),
  ⟨Nat.le_trans h.mK.1 hg.size,fun i hi hn hr=>(hg.block i (Nat.lt_of_lt_of_le hi h.mK.1) (fun e=>by have:=hv i e.symm;omega)).trans (h.mK.2 i hi hn (by simp))⟩⟩
end
set_option maxHeartbeats 16000000 in
set_option maxRecDepth 100000 in
theorem spec_l20Near.calls (k:Nat) (g:Nat) (s0_0:List Int) (s0_1:Int) (P1_:Nat→Prop) (u1:Value) (l1:List (S46)) (r1:List (S46)) (r2:Int) (w0 w:World) (hI:IsS102 w0 w g s0_0 s0_1) (hB:Below w0.heap.size w0 w) (ho1:Kd.R k46 46 w w0.heap.size P1_ u1 l1) (h:spec_l20Near.f k s0_0 s0_1 l1=some (r1,r2)) :
  Calls Tryd.prog 82 #[.pointer (some ⟨g,0,none⟩),u1] w fun e w'=>∃ v0_:Value,e = .returned (v0_)∧Kd.R k46 46 w' w0.heap.size (fun k_=>(P1_ k_∨w.heap.size≤k_)) v0_ r1∧IsS102 w0 w' g s0_0 r2∧Below w0.heap.size w0 w'∧KeepBut w w' g none:=by
 have hgl:=hI.lt
 have HW:=Aside0.mk hB.size
 have HA:=Aside0.mk (Kd.R_bound (IsS102.apart hI ho1 (by decide)))
 have HI:=Aside0.mk hI
 have HB:=Aside0.mk hB
 have HH:=Aside0.mk h
 clear hI hB ho1 h
 obtain ⟨A1,c1,rfl⟩:=Kd.R_slice HA.out
 go_enter Tryd.func82,Tryd.ntmps82
 go_wp2_with (first
  | ((with_reducible refine gate_dst (N:=8) rfl ?_);refine Kd.R_lit k46 (w0:=w) w.heap.size 46 ?hg (N:=8) ?hd (xs:=([]:List (S46))) (inner:=[]) (ok:=fun _=>True) (okp:=fun _=>True) ?hr ?hp (fun _ hk=>hk) trivial (Below.refl _ _) (Nat.le_refl _) (by simp) ?_;(case hd=>rfl);(case hg=>rfl);(case hr=>first|(go_simp;done)|(go_simp;rfl));(case hp=>exact (Reps.none _ _));intro v3 w3 ho3 hb3 hg3 hnew3;have HL:=Aside0.mk (show NLoop w0 w w3 g s0_0 s0_1 P1_ (.slice A1 l1.length c1) v3 l1 [] from ⟨ho3,Kd.R_mono (Kd.R_below HA.out hb3) (fun k hk=>⟨hk.1,hk.2.2.1⟩),HI.out.below hb3,HB.out.trans (hb3.mono HW.out),⟨hb3.size,fun i hi _ _=>hb3.block i hi⟩⟩);clear ho3 hb3 hg3 hnew3))
 go_loopg [5,6] k (fun gg v5 v6 wr=>∃ (x:List Cat.Cell) (i p:Int),v6 = .int .i64 i∧Aside0 (NLoop w0 w wr g s0_0 p P1_ (.slice A1 l1.length c1) v5 l1 x)∧Aside0 (spec_l20Near.l0 gg l1 x i s0_0 p=some (r1,r2)))
 case atStart=>exact ⟨[],0,s0_1,rfl,HL,HH⟩
 case round=>
  clear HL HH
  obtain ⟨x,i,p,rfl,HM,HF⟩:=hrel
  cases gk with
  | zero=>exact absurd HF.out (by simp [spec_l20Near.l0])
  | succ gk=>
   have h:=HF.out
   rw [spec_l20Near.l0] at h
   by_cases hi:i<(l1.length:Int)
   ·rw [if_pos hi] at h
    obtain ⟨e0,h1,h2⟩:=Option.bind_eq_some_iff.1 h
    have H1:=Aside0.mk h1
    have HR1:=Aside0.mk (Kd.R_reads' HM.out.mA)
    by_cases ht:e0<0
    ·rw [if_pos ht] at h2
     injection h2 with h2
     injection h2 with h2 h3
     subst h2 h3
     clear h h1 HF
     go_wp2_with (go_at_call 68;(with_reducible refine (spec_l1End.calls gk A1 c1 l1 i e0 _ HR1.out.2.2 HR1.out.2.1 H1.out).mono ?_);rintro e w' ⟨rfl,⟨nd,rfl⟩⟩)
     go_ret
     have HD:=HM.out.drew nd
     exact ⟨_,rfl,Kd.R_mono HD.mA (fun k hk=>.inl hk.1.1),HD.mI,HD.mB,HD.mK⟩
    ·rw [if_neg ht] at h2
     obtain ⟨⟨y,p1⟩,h3,h4⟩:=Option.bind_eq_some_iff.1 h2
     have H3:=Aside0.mk h3
     have HN:=Aside0.mk (fun (nd:Nat) (w':World) (hi:IsS102 w0 w' g s0_0 p1) (hb:Below w0.heap.size w0 w') (hk:KeepBut (wr.drewN nd) w' g none)=>(HM.out.drew nd).keep hgl hi hb hk)
     by_cases hy:y=0
     ·rw [if_pos hy] at h4
      obtain ⟨⟨z,p2⟩,h5,h6⟩:=Option.bind_eq_some_iff.1 h4
      by_cases hx:x.length<4398046511104
      case neg=>rw [if_neg hx] at h6;cases h6
      rw [if_pos hx] at h6
      have H5:=Aside0.mk h5
      have H6:=Aside0.mk h6
      have HX:=Aside0.mk hx
      have hyt:(y == 0)=true:=by simpa using hy
      clear h h1 h2 h3 h4 h5 h6 HF hx hy
      go_wp2_with (first
       | (go_at_call 68;(with_reducible refine (spec_l1End.calls gk A1 c1 l1 i e0 _ HR1.out.2.2 HR1.out.2.1 H1.out).mono ?_);rintro e w' ⟨rfl,⟨nd,rfl⟩⟩)
       | (go_at_call 52;(with_reducible refine (spec_l20Rd_pick.calls gk g s0_0 p 4 y p1 w0 _ (HM.out.drew nd).mI (HM.out.drew nd).mB H3.out).mono ?_);rintro e w4 ⟨rfl,hi4,hb4,hk4⟩;have HM4:=Aside0.mk (HN.out nd w4 hi4 hb4 hk4);clear hi4 hb4 hk4)
       | (go_at_call 52;(with_reducible refine (spec_l20Rd_pick.calls gk g s0_0 p1 8 z p2 w0 _ HM4.out.mI HM4.out.mB H5.out).mono ?_);rintro e w5 ⟨rfl,hi5,hb5,hk5⟩;have HM5:=Aside0.mk (HM4.out.keep hgl hi5 hb5 hk5);clear hi5 hb5 hk5)
       | ((with_reducible refine gate_builtin (b:=.append) (xs:=#[.tmp 22,.tmp 26]) rfl ?_);at_builtin;refine Kd.R_append k46 (w0:=w5) w.heap.size rfl (.tmp 22) (.tmp 26) 26 46 (.agg #[(.int .i64 0),(.int .i64 0),(.string ⟨#[]⟩)]) 32 rfl Tryd.underlying26 info46 rfl (by decide) (by omega) u5 x ⟨1,z,⟨#[]⟩⟩ [.int .i64 1,.int .i64 z,.string ⟨#[]⟩] (fun _=>True) (fun _=>False) rfl qz77 ?aP (fun _ hk=>hk.elim) ?aF ?aO ?aB ?aS ?aL ?_;(case aP=>exact k46_mkM _ _ _ (⟨1,z,⟨#[]⟩⟩:S46));(case aF=>exact fun _ _=>trivial);(case aO=>exact HM5.out.mO);(case aB=>exact Below.refl _ _);(case aS=>exact HM5.out.mK.1);(case aL=>have:=HX.out;omega);intro v9 w9 ho9 hb9 hg9 hat9;have HM9:=Aside0.mk (HM5.out.row hgl HW.out ho9 hg9);clear ho9 hb9 hg9 hat9))
      go_roundg gk
      case measure=>omega
      case rel=>exact ⟨_,e0,p2,rfl,HM9,H6⟩
     ·rw [if_neg hy] at h4
      by_cases hx:0≤i∧x.length<4398046511104
      case neg=>rw [if_neg hx] at h4;cases h4
      rw [if_pos hx] at h4
      obtain ⟨hi0,hx⟩:=hx
      have H6:=Aside0.mk h4
      have HX:=Aside0.mk hx
      have hyt:(y == 0)=false:=by simpa using hy
      clear h h1 h2 h3 h4 HF hx hy
      generalize hec:rd_T46 l1 i=cc at H6
      have HEC:=Aside0.mk hec
      clear hec
      go_wp2_with (first
       | (go_at_call 68;(with_reducible refine (spec_l1End.calls gk A1 c1 l1 i e0 _ HR1.out.2.2 HR1.out.2.1 H1.out).mono ?_);rintro e w' ⟨rfl,⟨nd,rfl⟩⟩)
       | (go_at_call 52;(with_reducible refine (spec_l20Rd_pick.calls gk g s0_0 p 4 y p1 w0 _ (HM.out.drew nd).mI (HM.out.drew nd).mB H3.out).mono ?_);rintro e w4 ⟨rfl,hi4,hb4,hk4⟩;have HM4:=Aside0.mk (HN.out nd w4 hi4 hb4 hk4);clear hi4 hb4 hk4;obtain ⟨ad,ead,hx0,hx1,hx2⟩:=at_T46 (Kd.R_reads' HM4.out.mA).2.2 i hi0 hi;subst ead;rw [HEC.out] at hx0 hx1 hx2)
       | ((with_reducible refine gate_builtin (b:=.append) (xs:=#[.tmp 29,.tmp 34]) rfl ?_);at_builtin;refine Kd.R_append k46 (w0:=w4) w.heap.size rfl (.tmp 29) (.tmp 34) 26 46 (.agg #[(.int .i64 0),(.int .i64 0),(.string ⟨#[]⟩)]) 32 rfl Tryd.underlying26 info46 rfl (by decide) (by omega) u5 x cc [.int .i64 cc.f0,.int .i64 cc.f1,.string cc.f2] (fun _=>True) (fun _=>False) rfl qz77 ?aP (fun _ hk=>hk.elim) ?aF ?aO ?aB ?aS ?aL ?_;(case aP=>exact k46_mkM _ _ _ cc);(case aF=>exact fun _ _=>trivial);(case aO=>exact HM4.out.mO);(case aB=>exact Below.refl _ _);(case aS=>exact HM4.out.mK.1);(case aL=>have:=HX.out;omega);intro v9 w9 ho9 hb9 hg9 hat9;have HM9:=Aside0.mk (HM4.out.row hgl HW.out ho9 hg9);clear ho9 hb9 hg9 hat9))
      go_roundg gk
      case measure=>omega
      case rel=>exact ⟨_,wrap64 (i+1),p1,by go_num,HM9,H6⟩
   ·rw [if_neg hi] at h
    injection h with h
    injection h with h1 h2
    subst h1 h2
    clear HF
    go_wp2
    go_ret
    exact ⟨_,rfl,Kd.R_lower (Kd.R_mono (Kd.R_bound HM.out.mO) (fun k hk=>.inr hk.2.1)) HW.out,HM.out.mI,HM.out.mB,HM.out.mK⟩
def spec_DrawSubUnify.f (k:Nat) (l0:List Int):Option ((List (S30)) × (List (S46)) × (List (S46))):=
 (spec_l20Open.f l0).bind fun o=>(spec_l20BindsOr.f k o.1 o.2 20).bind fun s=>(spec_l20Rd_pick.f k o.1 s.2 3).bind fun x=>(spec_l20TermOr.f k o.1 x.2 20).bind fun a=>(spec_l20Rd_pick.f k o.1 a.2 3).bind fun y=>
  if y.1 > 0 then (spec_l20Near.f k o.1 y.2 a.1).bind fun b=>some (if x.1=0 then [] else s.1,a.1,b.1) else (spec_l20TermOr.f k o.1 y.2 20).bind fun b=>some (if x.1=0 then [] else s.1,a.1,b.1)
theorem S_keepd {wr w':World} {base g:Nat} {u:Value} {s:List Cat.Bind} (h:Kd.S k30 30 wr base (fun _=>True) u s) (hk:KeepBut wr w' g none) (hg:g<base):Kd.S k30 30 w' base (fun _=>True) u s:=
 Kd.S_mono (Kd.S_keep (ok:=fun k=>base≤k) (Kd.S_mono (Kd.S_bound h) (fun k hk=>hk.2.1)) hk (fun k hk=>by omega)) (fun _ _=>trivial)
theorem R_keepd {wr w':World} {base g:Nat} {u:Value} {s:List Cat.Cell} (h:Kd.R k46 46 wr base (fun _=>True) u s) (hk:KeepBut wr w' g none) (hg:g<base):Kd.R k46 46 w' base (fun _=>True) u s:=
 Kd.R_mono (Kd.R_keep (ok:=fun k=>base≤k) (Kd.R_mono (Kd.R_bound h) (fun k hk=>hk.2.1)) hk (fun k hk=>by omega)) (fun _ _=>trivial)
set_option maxHeartbeats 16000000 in
set_option maxRecDepth 100000 in
theorem spec_DrawSubUnify.calls (k:Nat) (A0:Option Addr) (c0:Nat) (l0:List Int) (r1:List (S30)) (r2 r3:List (S46)) (w:World) (hr0:Kd.C (Kd.int .u8) w A0 l0.length l0) (hc0:l0.length≤c0) (h:spec_DrawSubUnify.f k l0=some (r1,r2,r3)) :
  Calls Tryd.prog 43 #[.slice A0 l0.length c0] w fun e w'=>∃ v0_ v1_ v2_:Value,e = .returned (.tuple #[v0_,v1_,v2_])∧Kd.S k30 30 w' w.heap.size (fun _=>True) v0_ r1∧Kd.R k46 46 w' w.heap.size (fun _=>True) v1_ r2∧Kd.R k46 46 w' w.heap.size (fun _=>True) v2_ r3∧Below w.heap.size w w':=by
 unfold spec_DrawSubUnify.f at h
 obtain ⟨⟨b,p0⟩,h1,g1⟩:=Option.bind_eq_some_iff.1 h
 obtain ⟨⟨s,p1⟩,h2,g2⟩:=Option.bind_eq_some_iff.1 g1
 obtain ⟨⟨x,p2⟩,h3,g3⟩:=Option.bind_eq_some_iff.1 g2
 obtain ⟨⟨a,p3⟩,h5,g5⟩:=Option.bind_eq_some_iff.1 g3
 obtain ⟨⟨y,p4⟩,h6,g6⟩:=Option.bind_eq_some_iff.1 g5
 have HR:=Aside0.mk hr0
 have HC:=Aside0.mk hc0
 have H1:=Aside0.mk h1
 have H2:=Aside0.mk h2
 have H3:=Aside0.mk h3
 have H5:=Aside0.mk h5
 have H6:=Aside0.mk h6
 have G6:=Aside0.mk g6
 clear h h1 h2 h3 h5 h6 g1 g2 g3 g5 g6 hr0 hc0
 by_cases hy:y > 0
 ·have g7:=G6.out
  rw [if_pos hy] at g7
  obtain ⟨⟨t,p5⟩,h7,h8⟩:=Option.bind_eq_some_iff.1 g7
  have H7:=Aside0.mk h7
  have H8:=Aside0.mk h8
  have hyb:decide ((0:Int)<y)=true:=by simpa using hy
  clear g7 h7 h8 G6
  by_cases hx:x=0
  ·have HX:=Aside0.mk hx
   have hxb:(x == 0)=true:=by simpa using hx
   clear hx
   have h8:=Option.some.inj H8.out
   rw [if_pos HX.out] at h8
   injection h8 with h8 h9
   injection h9 with h9 h10
   subst h8 h9 h10
   clear H8
   go_enter Tryd.func43,Tryd.ntmps43
   go_wp2_with (first
    | (go_at_call 50;(with_reducible refine (spec_l20Open.calls _ _ l0 b p0 w _ (Below.refl _ _) HR.out HC.out H1.out).mono ?_);rintro e w1 ⟨g,rfl,hi,hb,hb2⟩;have HI1:=Aside0.mk hi;have HB1:=Aside0.mk hb;clear hi hb hb2)
    | (go_at_call 51;(with_reducible refine (spec_l20BindsOr.calls k g b p0 20 s p1 w _ HI1.out HB1.out H2.out).mono ?_);rintro e w2 ⟨v2,rfl,ho,hi,hb,hk⟩;have HS2:=Aside0.mk ho;have HI2:=Aside0.mk hi;have HB2:=Aside0.mk hb;clear ho hi hb hk)
    | (go_at_call 52;(with_reducible refine (spec_l20Rd_pick.calls k g b p1 3 x p2 w _ HI2.out HB2.out H3.out).mono ?_);rintro e w3 ⟨rfl,hi,hb,hk⟩;have HS3:=Aside0.mk (S_keepd HS2.out hk HI1.out.lt);have HI3:=Aside0.mk hi;have HB3:=Aside0.mk hb;clear hi hb hk)
    | ((with_reducible refine gate_dst (N:=15) rfl ?_);refine Kd.S_lit k30 (w0:=w3) w3.heap.size 30 ?hg (N:=15) ?hd (xs:=([]:List (S30))) (inner:=[]) (ok:=fun _=>True) (okp:=fun _=>True) ?hr ?hp (fun _ hk=>hk) trivial (Below.refl _ _) (Nat.le_refl _) (by simp) ?_;(case hd=>rfl);(case hg=>rfl);(case hr=>first|(go_simp;done)|(go_simp;rfl));(case hp=>exact (Reps.none _ _));intro v4 w4 ho4 hb4 hg4 hnew4;have HS4:=Aside0.mk ho4;have HI4:=Aside0.mk (HI3.out.below hb4);have HB4:=Aside0.mk (HB3.out.trans (hb4.mono HB3.out.size));clear ho4 hb4 hg4 hnew4)
    | (go_at_call 66;(with_reducible refine (spec_l20TermOr.calls k g b p2 20 a p3 w _ HI4.out HB4.out H5.out).mono ?_);rintro e w5 ⟨v5,rfl,ho,hi,hb,hk⟩;have HA5:=Aside0.mk ho;have HS5:=Aside0.mk (S_keepd HS4.out hk HI3.out.lt);have HI5:=Aside0.mk hi;have HB5:=Aside0.mk hb;clear ho hi hb hk)
    | (go_at_call 52;(with_reducible refine (spec_l20Rd_pick.calls k g b p3 3 y p4 w _ HI5.out HB5.out H6.out).mono ?_);rintro e w6 ⟨rfl,hi,hb,hk⟩;have HA6:=Aside0.mk (R_keepd HA5.out hk HI4.out.lt);have HS6:=Aside0.mk (S_keepd HS5.out hk HI3.out.lt);have HI6:=Aside0.mk hi;have HB6:=Aside0.mk hb;clear hi hb hk)
    | (go_at_call 82;(with_reducible refine (spec_l20Near.calls k g b p4 (fun _=>True) v5 a t p5 w _ HI6.out HB6.out (Kd.R_lower HA6.out HB4.out.size) H7.out).mono ?_);rintro e w7 ⟨v7,rfl,ho,hi,hb,hk⟩;have HT7:=Aside0.mk (Kd.R_mono (ok':=fun _=>True) ho (fun _ _=>trivial));have HB7:=Aside0.mk hb;have HA7:=Aside0.mk (R_keepd HA6.out hk HI4.out.lt);have HS7:=Aside0.mk (S_keepd HS6.out hk HI3.out.lt);clear ho hi hb hk))
   go_ret3
   exact ⟨_,_,_,rfl,Kd.S_lower HS7.out HB3.out.size,Kd.R_lower HA7.out HB4.out.size,HT7.out,HB7.out⟩
  ·have HX:=Aside0.mk hx
   have hxb:(x == 0)=false:=by simpa using hx
   clear hx
   have h8:=Option.some.inj H8.out
   rw [if_neg HX.out] at h8
   injection h8 with h8 h9
   injection h9 with h9 h10
   subst h8 h9 h10
   clear H8
   go_enter Tryd.func43,Tryd.ntmps43
   go_wp2_with (first
    | (go_at_call 50;(with_reducible refine (spec_l20Open.calls _ _ l0 b p0 w _ (Below.refl _ _) HR.out HC.out H1.out).mono ?_);rintro e w1 ⟨g,rfl,hi,hb,hb2⟩;have HI1:=Aside0.mk hi;have HB1:=Aside0.mk hb;clear hi hb hb2)
    | (go_at_call 51;(with_reducible refine (spec_l20BindsOr.calls k g b p0 20 s p1 w _ HI1.out HB1.out H2.out).mono ?_);rintro e w2 ⟨v2,rfl,ho,hi,hb,hk⟩;have HS2:=Aside0.mk ho;have HI2:=Aside0.mk hi;have HB2:=Aside0.mk hb;clear ho hi hb hk)
    | (go_at_call 52;(with_reducible refine (spec_l20Rd_pick.calls k g b p1 3 x p2 w _ HI2.out HB2.out H3.out).mono ?_);rintro e w3 ⟨rfl,hi,hb,hk⟩;have HS3:=Aside0.mk (S_keepd HS2.out hk HI1.out.lt);have HI3:=Aside0.mk hi;have HB3:=Aside0.mk hb;clear hi hb hk)
    | (go_at_call 66;(with_reducible refine (spec_l20TermOr.calls k g b p2 20 a p3 w _ HI3.out HB3.out H5.out).mono ?_);rintro e w5 ⟨v5,rfl,ho,hi,hb,hk⟩;have HA5:=Aside0.mk ho;have HS5:=Aside0.mk (S_keepd HS3.out hk HI1.out.lt);have HI5:=Aside0.mk hi;have HB5:=Aside0.mk hb;clear ho hi hb hk)
    | (go_at_call 52;(with_reducible refine (spec_l20Rd_pick.calls k g b p3 3 y p4 w _ HI5.out HB5.out H6.out).mono ?_);rintro e w6 ⟨rfl,hi,hb,hk⟩;have HA6:=Aside0.mk (R_keepd HA5.out hk HI3.out.lt);have HS6:=Aside0.mk (S_keepd HS5.out hk HI1.out.lt);have HI6:=Aside0.mk hi;have HB6:=Aside0.mk hb;clear hi hb hk)
    | (go_at_call 82;(with_reducible refine (spec_l20Near.calls k g b p4 (fun _=>True) v5 a t p5 w _ HI6.out HB6.out (Kd.R_lower HA6.out HB3.out.size) H7.out).mono ?_);rintro e w7 ⟨v7,rfl,ho,hi,hb,hk⟩;have HT7:=Aside0.mk (Kd.R_mono (ok':=fun _=>True) ho (fun _ _=>trivial));have HB7:=Aside0.mk hb;have HA7:=Aside0.mk (R_keepd HA6.out hk HI3.out.lt);have HS7:=Aside0.mk (S_keepd HS6.out hk HI1.out.lt);clear ho hi hb hk))
   go_ret3
   exact ⟨_,_,_,rfl,Kd.S_lower HS7.out HB1.out.size,Kd.R_lower HA7.out HB3.out.size,HT7.out,HB7.out⟩
 ·have g7:=G6.out
  rw [if_neg hy] at g7
  obtain ⟨⟨t,p5⟩,h7,h8⟩:=Option.bind_eq_some_iff.1 g7
  have H7:=Aside0.mk h7
  have H8:=Aside0.mk h8
  have hyb:decide ((0:Int)<y)=false:=by simpa using hy
  clear g7 h7 h8 G6
  by_cases hx:x=0
  ·have HX:=Aside0.mk hx
   have hxb:(x == 0)=true:=by simpa using hx
   clear hx
   have h8:=Option.some.inj H8.out
   rw [if_pos HX.out] at h8
   injection h8 with h8 h9
   injection h9 with h9 h10
   subst h8 h9 h10
   clear H8
   go_enter Tryd.func43,Tryd.ntmps43
   go_wp2_with (first
    | (go_at_call 50;(with_reducible refine (spec_l20Open.calls _ _ l0 b p0 w _ (Below.refl _ _) HR.out HC.out H1.out).mono ?_);rintro e w1 ⟨g,rfl,hi,hb,hb2⟩;have HI1:=Aside0.mk hi;have HB1:=Aside0.mk hb;clear hi hb hb2)
    | (go_at_call 51;(with_reducible refine (spec_l20BindsOr.calls k g b p0 20 s p1 w _ HI1.out HB1.out H2.out).mono ?_);rintro e w2 ⟨v2,rfl,ho,hi,hb,hk⟩;have HS2:=Aside0.mk ho;have HI2:=Aside0.mk hi;have HB2:=Aside0.mk hb;clear ho hi hb hk)
    | (go_at_call 52;(with_reducible refine (spec_l20Rd_pick.calls k g b p1 3 x p2 w _ HI2.out HB2.out H3.out).mono ?_);rintro e w3 ⟨rfl,hi,hb,hk⟩;have HS3:=Aside0.mk (S_keepd HS2.out hk HI1.out.lt);have HI3:=Aside0.mk hi;have HB3:=Aside0.mk hb;clear hi hb hk)
    | ((with_reducible refine gate_dst (N:=15) rfl ?_);refine Kd.S_lit k30 (w0:=w3) w3.heap.size 30 ?hg (N:=15) ?hd (xs:=([]:List (S30))) (inner:=[]) (ok:=fun _=>True) (okp:=fun _=>True) ?hr ?hp (fun _ hk=>hk) trivial (Below.refl _ _) (Nat.le_refl _) (by simp) ?_;(case hd=>rfl);(case hg=>rfl);(case hr=>first|(go_simp;done)|(go_simp;rfl));(case hp=>exact (Reps.none _ _));intro v4 w4 ho4 hb4 hg4 hnew4;have HS4:=Aside0.mk ho4;have HI4:=Aside0.mk (HI3.out.below hb4);have HB4:=Aside0.mk (HB3.out.trans (hb4.mono HB3.out.size));clear ho4 hb4 hg4 hnew4)
    | (go_at_call 66;(with_reducible refine (spec_l20TermOr.calls k g b p2 20 a p3 w _ HI4.out HB4.out H5.out).mono ?_);rintro e w5 ⟨v5,rfl,ho,hi,hb,hk⟩;have HA5:=Aside0.mk ho;have HS5:=Aside0.mk (S_keepd HS4.out hk HI3.out.lt);have HI5:=Aside0.mk hi;have HB5:=Aside0.mk hb;clear ho hi hb hk)
    | (go_at_call 52;(with_reducible refine (spec_l20Rd_pick.calls k g b p3 3 y p4 w _ HI5.out HB5.out H6.out).mono ?_);rintro e w6 ⟨rfl,hi,hb,hk⟩;have HA6:=Aside0.mk (R_keepd HA5.out hk HI4.out.lt);have HS6:=Aside0.mk (S_keepd HS5.out hk HI3.out.lt);have HI6:=Aside0.mk hi;have HB6:=Aside0.mk hb;clear hi hb hk)
    | (go_at_call 66;(with_reducible refine (spec_l20TermOr.calls k g b p4 20 t p5 w _ HI6.out HB6.out H7.out).mono ?_);rintro e w7 ⟨v7,rfl,ho,hi,hb,hk⟩;have HT7:=Aside0.mk (Kd.R_lower ho HB6.out.size);have HB7:=Aside0.mk hb;have HA7:=Aside0.mk (R_keepd HA6.out hk HI4.out.lt);have HS7:=Aside0.mk (S_keepd HS6.out hk HI3.out.lt);clear ho hi hb hk))
   go_ret3
   exact ⟨_,_,_,rfl,Kd.S_lower HS7.out HB3.out.size,Kd.R_lower HA7.out HB4.out.size,HT7.out,HB7.out⟩
  ·have HX:=Aside0.mk hx
   have hxb:(x == 0)=false:=by simpa using hx
   clear hx
   have h8:=Option.some.inj H8.out
   rw [if_neg HX.out] at h8
   injection h8 with h8 h9
   injection h9 with h9 h10
   subst h8 h9 h10
   clear H8
   go_enter Tryd.func43,Tryd.ntmps43
   go_wp2_with (first
    | (go_at_call 50;(with_reducible refine (spec_l20Open.calls _ _ l0 b p0 w _ (Below.refl _ _) HR.out HC.out H1.out).mono ?_);rintro e w1 ⟨g,rfl,hi,hb,hb2⟩;have HI1:=Aside0.mk hi;have HB1:=Aside0.mk hb;clear hi hb hb2)
    | (go_at_call 51;(with_reducible refine (spec_l20BindsOr.calls k g b p0 20 s p1 w _ HI1.out HB1.out H2.out).mono ?_);rintro e w2 ⟨v2,rfl,ho,hi,hb,hk⟩;have HS2:=Aside0.mk ho;have HI2:=Aside0.mk hi;have HB2:=Aside0.mk hb;clear ho hi hb hk)
    | (go_at_call 52;(with_reducible refine (spec_l20Rd_pick.calls k g b p1 3 x p2 w _ HI2.out HB2.out H3.out).mono ?_);rintro e w3 ⟨rfl,hi,hb,hk⟩;have HS3:=Aside0.mk (S_keepd HS2.out hk HI1.out.lt);have HI3:=Aside0.mk hi;have HB3:=Aside0.mk hb;clear hi hb hk)
    | (go_at_call 66;(with_reducible refine (spec_l20TermOr.calls k g b p2 20 a p3 w _ HI3.out HB3.out H5.out).mono ?_);rintro e w5 ⟨v5,rfl,ho,hi,hb,hk⟩;have HA5:=Aside0.mk ho;have HS5:=Aside0.mk (S_keepd HS3.out hk HI1.out.lt);have HI5:=Aside0.mk hi;have HB5:=Aside0.mk hb;clear ho hi hb hk)
    | (go_at_call 52;(with_reducible refine (spec_l20Rd_pick.calls k g b p3 3 y p4 w _ HI5.out HB5.out H6.out).mono ?_);rintro e w6 ⟨rfl,hi,hb,hk⟩;have HA6:=Aside0.mk (R_keepd HA5.out hk HI3.out.lt);have HS6:=Aside0.mk (S_keepd HS5.out hk HI1.out.lt);have HI6:=Aside0.mk hi;have HB6:=Aside0.mk hb;clear hi hb hk)
    | (go_at_call 66;(with_reducible refine (spec_l20TermOr.calls k g b p4 20 t p5 w _ HI6.out HB6.out H7.out).mono ?_);rintro e w7 ⟨v7,rfl,ho,hi,hb,hk⟩;have HT7:=Aside0.mk (Kd.R_lower ho HB6.out.size);have HB7:=Aside0.mk hb;have HA7:=Aside0.mk (R_keepd HA6.out hk HI3.out.lt);have HS7:=Aside0.mk (S_keepd HS6.out hk HI1.out.lt);clear ho hi hb hk))
   go_ret3
   exact ⟨_,_,_,rfl,Kd.S_lower HS7.out HB1.out.size,Kd.R_lower HA7.out HB3.out.size,HT7.out,HB7.out⟩
end Go.Proofs.YtlaicnoikeieeaaDoor.P
