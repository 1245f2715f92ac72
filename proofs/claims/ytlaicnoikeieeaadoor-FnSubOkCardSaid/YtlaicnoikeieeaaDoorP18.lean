/- Contracts of functions of the program: each as a Lean function, and that its call does what that says; printed by cprint.py (this session) over print.py of the kit. Conditions: the hypotheses of each theorem. -/
import Derived.Test.YtlaicnoikeieeaaDoorVZ
import Derived.Test.YtlaicnoikeieeaaDoorP0
import Derived.Test.YtlaicnoikeieeaaDoorP15
import Derived.Test.YtlaicnoikeieeaaDoorP16
import Derived.Test.YtlaicnoikeieeaaDoorP17
namespace Go.Proofs.YtlaicnoikeieeaaDoor.P
open Go.RowKit Go.Proofs.YtlaicnoikeieeaaDoorW.PrintWords Go.Proofs.YtlaicnoikeieeaaDoorW.PrintLast Go.Proofs.YtlaicnoikeieeaaDoorW.PrintMore
attribute [local go_sem] max2_int min2_int max_two min_two max_three min_three max_four min_four   -- for this text's walks alone
set_option linter.unusedVariables false
set_option linter.unusedSimpArgs false

/-! ### spec_l20BindsOr: function 51 -/
def spec_l20BindsOr.f (k:Nat) (s0_0:List Int) (s0_1:Int) (a1:Int):Option ((List (S30)) × Int):=(spec_l20Binds.f k s0_0 s0_1).bind fun bt374=>((spec_l20Rd_odd.f k s0_0 bt374.2 a1).bind fun bt378=>(if bt378.1=true then ((spec_l20Rd_pick.f k s0_0 bt378.2 4).bind fun bt380=>(if bt380.1=0 then (if bt374.1.length<4398046511104 then (some ((bt374.1++[(⟨0,(([(⟨1,0,(⟨#[]⟩:ByteArray)⟩:S46)]:List (S46)))⟩:S30)]),bt380.2)) else (none)) else (if bt380.1=1 then ((some (([(-1),100000]:List Int):List Int)).bind fun y388=>((spec_l20Rd_pick.f k s0_0 bt380.2 2).bind fun bt391=>(if 0≤bt391.1 then (if bt391.1<(y388.length:Int) then (if bt374.1.length<4398046511104 then (some ((bt374.1++[(⟨rd y388 bt391.1,(([(⟨2,0,(⟨#[]⟩:ByteArray)⟩:S46)]:List (S46)))⟩:S30)]),bt391.2)) else (none)) else (none)) else (none)))) else (if bt380.1=2 then ((spec_l20Term.f k s0_0 bt380.2 8 3).bind fun bt400=>((spec_l20Spoil.f k s0_0 bt400.2 bt400.1).bind fun bt404=>(if bt374.1.length<4398046511104 then (some ((bt374.1++[(⟨9,bt404.1⟩:S30)]),bt404.2)) else (none)))) else (if bt374.1.length<4398046511104 then ((some (bt374.1++[(⟨7,(([(⟨1,8,(⟨#[]⟩:ByteArray)⟩:S46)]:List (S46)))⟩:S30)]:List (S30))).bind fun y414=>(if y414.length<4398046511104 then (some ((y414++[(⟨8,(([(⟨3,1,(⟨#[102]⟩:ByteArray)⟩:S46),(⟨1,7,(⟨#[]⟩:ByteArray)⟩:S46)]:List (S46)))⟩:S30)]),bt380.2)) else (none))) else (none)))))) else (some (bt374.1,bt378.2))))
set_option maxHeartbeats 8000000 in
set_option maxRecDepth 100000 in
theorem spec_l20BindsOr.calls (k:Nat) (g:Nat) (s0_0:List Int) (s0_1:Int) (a1:Int) (r1:List (S30)) (r2:Int) (w0 w:World) (hI:IsS102 w0 w g s0_0 s0_1) (hB:Below w0.heap.size w0 w) (h:spec_l20BindsOr.f k s0_0 s0_1 a1=some (r1,r2)) :
  Calls Tryd.prog 51 #[.pointer (some ⟨g,0,none⟩),.int .i64 a1] w fun e w'=>∃ v0_:Value,e = .returned (v0_)∧Kd.S k30 30 w' w.heap.size (fun _=>True) v0_ r1∧IsS102 w0 w' g s0_0 r2∧Below w0.heap.size w0 w'∧KeepBut w w' g none:=by
 have hu46:=Tryd.underlying46
 have hu30:=Tryd.underlying30
 have HI0:=Aside0.mk hI
 have HK:=Aside0.mk (KeepBut.refl w g none)
 have HL:=Aside0.mk hB.size
 clear hI
 have HW0:=Aside0.mk hB.size
 have HB:=Aside0.mk hB
 clear hB
 have H:((spec_l20Binds.f k s0_0 s0_1).bind fun bt374=>((spec_l20Rd_odd.f k s0_0 bt374.2 a1).bind fun bt378=>(if bt378.1=true then ((spec_l20Rd_pick.f k s0_0 bt378.2 4).bind fun bt380=>(if bt380.1=0 then (if bt374.1.length<4398046511104 then (some ((bt374.1++[(⟨0,(([(⟨1,0,(⟨#[]⟩:ByteArray)⟩:S46)]:List (S46)))⟩:S30)]),bt380.2)) else (none)) else (if bt380.1=1 then ((some (([(-1),100000]:List Int):List Int)).bind fun y388=>((spec_l20Rd_pick.f k s0_0 bt380.2 2).bind fun bt391=>(if 0≤bt391.1 then (if bt391.1<(y388.length:Int) then (if bt374.1.length<4398046511104 then (some ((bt374.1++[(⟨rd y388 bt391.1,(([(⟨2,0,(⟨#[]⟩:ByteArray)⟩:S46)]:List (S46)))⟩:S30)]),bt391.2)) else (none)) else (none)) else (none)))) else (if bt380.1=2 then ((spec_l20Term.f k s0_0 bt380.2 8 3).bind fun bt400=>((spec_l20Spoil.f k s0_0 bt400.2 bt400.1).bind fun bt404=>(if bt374.1.length<4398046511104 then (some ((bt374.1++[(⟨9,bt404.1⟩:S30)]),bt404.2)) else (none)))) else (if bt374.1.length<4398046511104 then ((some (bt374.1++[(⟨7,(([(⟨1,8,(⟨#[]⟩:ByteArray)⟩:S46)]:List (S46)))⟩:S30)]:List (S30))).bind fun y414=>(if y414.length<4398046511104 then (some ((y414++[(⟨8,(([(⟨3,1,(⟨#[102]⟩:ByteArray)⟩:S46),(⟨1,7,(⟨#[]⟩:ByteArray)⟩:S46)]:List (S46)))⟩:S30)]),bt380.2)) else (none))) else (none)))))) else (some (bt374.1,bt378.2)))))=some (r1,r2):=h
 clear h
 replace H:=Option.bind_eq_some_iff.mp H
 obtain ⟨⟨t374,t377⟩,A30,H⟩:=H
 try dsimp only at H
 have A3:=Aside0.mk A30
 clear A30
 replace H:=Option.bind_eq_some_iff.mp H
 obtain ⟨⟨t378,t379⟩,A40,H⟩:=H
 try dsimp only at H
 have A4:=Aside0.mk A40
 clear A40
 by_cases c5:t378=true
 ·subst c5
  have H1:((spec_l20Rd_pick.f k s0_0 t379 4).bind fun bt380=>(if bt380.1=0 then (if t374.length<4398046511104 then (some ((t374++[(⟨0,(([(⟨1,0,(⟨#[]⟩:ByteArray)⟩:S46)]:List (S46)))⟩:S30)]),bt380.2)) else (none)) else (if bt380.1=1 then ((some (([(-1),100000]:List Int):List Int)).bind fun y388=>((spec_l20Rd_pick.f k s0_0 bt380.2 2).bind fun bt391=>(if 0≤bt391.1 then (if bt391.1<(y388.length:Int) then (if t374.length<4398046511104 then (some ((t374++[(⟨rd y388 bt391.1,(([(⟨2,0,(⟨#[]⟩:ByteArray)⟩:S46)]:List (S46)))⟩:S30)]),bt391.2)) else (none)) else (none)) else (none)))) else (if bt380.1=2 then ((spec_l20Term.f k s0_0 bt380.2 8 3).bind fun bt400=>((spec_l20Spoil.f k s0_0 bt400.2 bt400.1).bind fun bt404=>(if t374.length<4398046511104 then (some ((t374++[(⟨9,bt404.1⟩:S30)]),bt404.2)) else (none)))) else (if t374.length<4398046511104 then ((some (t374++[(⟨7,(([(⟨1,8,(⟨#[]⟩:ByteArray)⟩:S46)]:List (S46)))⟩:S30)]:List (S30))).bind fun y414=>(if y414.length<4398046511104 then (some ((y414++[(⟨8,(([(⟨3,1,(⟨#[102]⟩:ByteArray)⟩:S46),(⟨1,7,(⟨#[]⟩:ByteArray)⟩:S46)]:List (S46)))⟩:S30)]),bt380.2)) else (none))) else (none))))))=some (r1,r2):=qz44
  clear H
  have H:=H1
  clear H1
  replace H:=Option.bind_eq_some_iff.mp H
  obtain ⟨⟨t380,t381⟩,A60,H⟩:=H
  try dsimp only at H
  have A6:=Aside0.mk A60
  clear A60
  by_cases c7:t380=0
  ·rw [if_pos c7] at H
   have c7b0:(t380 == 0)=true:=beq_iff_eq.mpr c7
   have c7b1:(t380 != 0)=false:=bne_eq_false_iff_eq.mpr c7
   clear c7
   obtain ⟨y382,hy382⟩:∃ y_:List (S46),y_=(([(⟨1,0,(⟨#[]⟩:ByteArray)⟩:S46)]:List (S46))):=⟨_,rfl⟩
   replace H:(if t374.length<4398046511104 then (some ((t374++[(⟨0,y382⟩:S30)]),t381)) else (none))=some (r1,r2):=by first|(rw [hy382];exact H)|exact H
   have Ny382:=Aside0.mk hy382
   clear hy382
   by_cases c8:t374.length<4398046511104
   ·rw [if_pos c8] at H
    have LMc8:=Aside0.mk c8
    clear c8
    obtain ⟨y385,hy385⟩:∃ y_:List (S30),y_=(t374++[(⟨0,y382⟩:S30)]):=⟨_,rfl⟩
    replace H:(some (y385,t381))=some (r1,r2):=by first|(rw [hy385];exact H)|exact H
    have Ny385:=Aside0.mk hy385
    clear hy385
    simp only [Option.some.injEq,Prod.mk.injEq] at H
    obtain ⟨rfl,rfl⟩:=H
    go_enter Tryd.func51,Tryd.ntmps51
    go_wp2_with (first|(go_at_call 88;(with_reducible refine (spec_l20Binds.calls k g s0_0 s0_1 t374 t377 w0 _ ?side1 ?side2 A3.out).mono ?_);(case side1=>exact qz1);(case side2=>exact qz4);rintro e w9 ⟨v375,rfl,ho0,hi,hb,hk⟩;have n0_:=Aside0.mk (Kd.S_lower ho0 (keep_size (w:=w) (g:=g) (row:=none) qz2));have n1_:=Aside0.mk (KeepBut.trans qz2 hk (.inl rfl));have n2_:=Aside0.mk (hb);have n3_:=Aside0.mk (hi);clear HK HB HI0;have HO376:=n0_;have HK:=n1_;have HB:=n2_;have HI0:=n3_;clear n0_ n1_ n2_ n3_;(try clear hb);(try clear hb2);(try clear hk);(try clear hi);(try clear ho0))|(go_at_call 89;(with_reducible refine (spec_l20Rd_odd.calls k g s0_0 t377 a1 true t379 w0 _ ?side1 ?side2 A4.out).mono ?_);(case side1=>exact qz1);(case side2=>exact qz4);rintro e w10 ⟨rfl,hi,hb,hk⟩;have n0_:=Aside0.mk (Kd.S_mono (Kd.S_keep (IsS102.apartS (show IsS102 w0 _ g s0_0 t377 from qz1) qz19 (by decide)) hk (fun _ h=>h.2)) (fun _ h=>h.1));have n1_:=Aside0.mk (KeepBut.trans qz2 hk (.inl rfl));have n2_:=Aside0.mk (hb);have n3_:=Aside0.mk (hi);clear HO376 HK HB HI0;have HO376:=n0_;have HK:=n1_;have HB:=n2_;have HI0:=n3_;clear n0_ n1_ n2_ n3_;(try clear hb);(try clear hb2);(try clear hk);(try clear hi))|(go_at_call 52;(with_reducible refine (spec_l20Rd_pick.calls k g s0_0 t379 4 t380 t381 w0 _ ?side1 ?side2 A6.out).mono ?_);(case side1=>exact qz1);(case side2=>exact qz4);rintro e w11 ⟨rfl,hi,hb,hk⟩;have n0_:=Aside0.mk (Kd.S_mono (Kd.S_keep (IsS102.apartS (show IsS102 w0 _ g s0_0 t379 from qz1) qz19 (by decide)) hk (fun _ h=>h.2)) (fun _ h=>h.1));have n1_:=Aside0.mk (KeepBut.trans qz2 hk (.inl rfl));have n2_:=Aside0.mk (hb);have n3_:=Aside0.mk (hi);clear HO376 HK HB HI0;have HO376:=n0_;have HK:=n1_;have HB:=n2_;have HI0:=n3_;clear n0_ n1_ n2_ n3_;(try clear hb);(try clear hb2);(try clear hk);(try clear hi))|((with_reducible refine gate_dst (N:=17) rfl ?_);refine Kd.R_lit k46 _ 46 ?hg (N:=17) ?hd (xs:=([(⟨1,0,(⟨#[]⟩:ByteArray)⟩:S46)]:List (S46))) (inner:=[.int .i64 1,.int .i64 0,.string (⟨#[]⟩:ByteArray)]) (ok:=fun _=>True) (okp:=fun _=>True) ?hr ?hp (fun _ hk=>hk) trivial (Below.refl _ _) (Nat.le_refl _) (by simp) ?_;(case hd=>rfl);(case hg=>rfl);(case hr=>first|(go_simp;done)|(go_simp;rfl));(case hp=>exact (Reps.c3 (show Kd.M k46 _ _ _ (⟨1,0,(⟨#[]⟩:ByteArray)⟩:S46) [.int .i64 1,.int .i64 0,.string (⟨#[]⟩:ByteArray)] from (k46_mkM _ _ _ (⟨1,0,(⟨#[]⟩:ByteArray)⟩:S46) )) (Reps.none _ _)));intro v383 w12 ho13 hb hg_ hnew_;clear hg_ hnew_;(first|rw [← Ny382.out] at ho13|(simp only [Int.reduceToNat] at ho13;rw [← Ny382.out] at ho13));have n0_:=Aside0.mk (Kd.S_elder' qz19 (Kd.R_base ho13) hb);have n1_:=Aside0.mk (Kd.R_lower ho13 (keep_size (w:=w) (g:=g) (row:=none) qz2));have n2_:=Aside0.mk (IsS102.below qz1 hb);have n3_:=Aside0.mk (KeepBut.trans qz2 (KeepBut.of_below hb g none) (.inl rfl));have n4_:=Aside0.mk (below_step qz4 hb);clear HO376 HI0 HK HB;have HO376:=n0_;have HO384:=n1_;have HI0:=n2_;have HK:=n3_;have HB:=n4_;clear n0_ n1_ n2_ n3_ n4_ hb ho13;obtain ⟨Ao14,co14,eo14⟩:=Kd.R_slice HO384.out;subst eo14)|((with_reducible refine gate_builtin (b:=.append) (xs:=#[.tmp 15,.tmp 19]) rfl ?_);at_builtin;refine Kd.S_append k30 w.heap.size rfl (.tmp 15) (.tmp 19) 23 30 (.agg #[(.int .i64 0),(.slice none 0 0)]) 32 rfl Tryd.underlying23 info30 rfl (by decide) (by omega) v375 t374 (⟨0,y382⟩:S30) [.int .i64 0,.slice Ao14 y382.length co14] (fun _=>True) (fun k_=>some k_=(.slice Ao14 y382.length co14:Value).ownBlock) rfl rfl ?aP (fun k_ hk_=>((Kd.R_mono (ok':=fun k_=>((fun _=>True)) k_∧some k_≠(v375:Value).ownBlock) (Kd.R_apart' (HO384.out) (Kd.S_typed HO376.out) (by decide)) (fun k_ hk=>⟨trivial,hk.2⟩))).1 k_ hk_.symm) ?aF ?aO (Below.refl _ _) ?aS ?aL ?_;(case aP=>exact k30_mkM _ _ _ (⟨0,y382⟩:S30) (Kd.R_mono (Kd.R_tight rfl (Kd.R_mono (ok':=fun k_=>((fun _=>True)) k_∧some k_≠(v375:Value).ownBlock) (Kd.R_apart' (HO384.out) (Kd.S_typed HO376.out) (by decide)) (fun k_ hk=>⟨trivial,hk.2⟩))) (fun _ h_=>h_)));(case aF=>exact (fun _ _=>trivial));(case aO=>exact qz59);(case aS=>exact (keep_size (w:=w) (g:=g) (row:=none) qz2));(case aL=>have:=LMc8.out;omega);intro v386 w15 ho hb hg hat;rw [← Ny385.out] at ho;have n0_:=Aside0.mk (IsS102.grown qz1 hg (IsS102.own_neS HI0.out HO376.out (by decide)));have n1_:=Aside0.mk (below_weaken qz4 HL.out hb);have n2_:=Aside0.mk (KeepBut.trans qz2 (KeepBut.of_grown hg g) (Kd.S_base2 HO376.out));have n3_:=Aside0.mk (ho);clear HI0 HB HK HO376 HO384;have HI0:=n0_;have HB:=n1_;have HK:=n2_;have HO387:=n3_;clear n0_ n1_ n2_ n3_ ho hb hg hat))
    go_ret
    exact ⟨_,qz8,by (with_reducible repeat (first|apply Kd.S_alloc|apply Kd.S_drewN|apply Kd.S_drew));exact HO387.out,qz1,qz4,qz2⟩
   ·rw [if_neg c8] at H
    exact absurd H (by simp)
  ·rw [if_neg c7] at H
   have c7b0:(t380 == 0)=false:=beq_eq_false_iff_ne.mpr c7
   have c7b1:(t380 != 0)=true:=bne_iff_ne.mpr c7
   by_cases c16:t380=1
   ·rw [if_pos c16] at H
    have c16b0:(t380 == 1)=true:=beq_iff_eq.mpr c16
    have c16b1:(t380 != 1)=false:=bne_eq_false_iff_eq.mpr c16
    clear c16
    obtain ⟨y388,hy388⟩:∃ y_:List Int,y_=(([(-1),100000]:List Int)):=⟨_,rfl⟩
    replace H:((spec_l20Rd_pick.f k s0_0 t381 2).bind fun bt391=>(if 0≤bt391.1 then (if bt391.1<(y388.length:Int) then (if t374.length<4398046511104 then (some ((t374++[(⟨rd y388 bt391.1,(([(⟨2,0,(⟨#[]⟩:ByteArray)⟩:S46)]:List (S46)))⟩:S30)]),bt391.2)) else (none)) else (none)) else (none)))=some (r1,r2):=by first|(rw [hy388];exact H)|exact H
    have Ny388:=Aside0.mk hy388
    clear hy388
    replace H:=Option.bind_eq_some_iff.mp H
    obtain ⟨⟨t391,t392⟩,A170,H⟩:=H
    try dsimp only at H
    have A17:=Aside0.mk A170
    clear A170
    by_cases c18:0≤t391
    ·rw [if_pos c18] at H
     have c18b0:decide (0≤t391)=true:=decide_eq_true c18
     clear c18
     by_cases c19:t391<(y388.length:Int)
     ·rw [if_pos c19] at H
      have c19b0:decide (t391<(y388.length:Int))=true:=decide_eq_true c19
      clear c19
      obtain ⟨y394,hy394⟩:∃ y_:List (S46),y_=(([(⟨2,0,(⟨#[]⟩:ByteArray)⟩:S46)]:List (S46))):=⟨_,rfl⟩
      replace H:(if t374.length<4398046511104 then (some ((t374++[(⟨rd y388 t391,y394⟩:S30)]),t392)) else (none))=some (r1,r2):=by first|(rw [hy394];exact H)|exact H
      have Ny394:=Aside0.mk hy394
      clear hy394
      by_cases c20:t374.length<4398046511104
      ·rw [if_pos c20] at H
       have LMc20:=Aside0.mk c20
       clear c20
       obtain ⟨y397,hy397⟩:∃ y_:List (S30),y_=(t374++[(⟨rd y388 t391,y394⟩:S30)]):=⟨_,rfl⟩
       replace H:(some (y397,t392))=some (r1,r2):=by first|(rw [hy397];exact H)|exact H
       have Ny397:=Aside0.mk hy397
       clear hy397
       simp only [Option.some.injEq,Prod.mk.injEq] at H
       obtain ⟨rfl,rfl⟩:=H
       go_enter Tryd.func51,Tryd.ntmps51
       go_wp2_with (first|(go_at_call 88;(with_reducible refine (spec_l20Binds.calls k g s0_0 s0_1 t374 t377 w0 _ ?side1 ?side2 A3.out).mono ?_);(case side1=>exact qz1);(case side2=>exact qz4);rintro e w21 ⟨v375,rfl,ho0,hi,hb,hk⟩;have n0_:=Aside0.mk (Kd.S_lower ho0 (keep_size (w:=w) (g:=g) (row:=none) qz2));have n1_:=Aside0.mk (KeepBut.trans qz2 hk (.inl rfl));have n2_:=Aside0.mk (hb);have n3_:=Aside0.mk (hi);clear HK HB HI0;have HO376:=n0_;have HK:=n1_;have HB:=n2_;have HI0:=n3_;clear n0_ n1_ n2_ n3_;(try clear hb);(try clear hb2);(try clear hk);(try clear hi);(try clear ho0))|(go_at_call 89;(with_reducible refine (spec_l20Rd_odd.calls k g s0_0 t377 a1 true t379 w0 _ ?side1 ?side2 A4.out).mono ?_);(case side1=>exact qz1);(case side2=>exact qz4);rintro e w22 ⟨rfl,hi,hb,hk⟩;have n0_:=Aside0.mk (Kd.S_mono (Kd.S_keep (IsS102.apartS (show IsS102 w0 _ g s0_0 t377 from qz1) qz19 (by decide)) hk (fun _ h=>h.2)) (fun _ h=>h.1));have n1_:=Aside0.mk (KeepBut.trans qz2 hk (.inl rfl));have n2_:=Aside0.mk (hb);have n3_:=Aside0.mk (hi);clear HO376 HK HB HI0;have HO376:=n0_;have HK:=n1_;have HB:=n2_;have HI0:=n3_;clear n0_ n1_ n2_ n3_;(try clear hb);(try clear hb2);(try clear hk);(try clear hi))|(go_at_call 52;(with_reducible refine (spec_l20Rd_pick.calls k g s0_0 t379 4 t380 t381 w0 _ ?side1 ?side2 A6.out).mono ?_);(case side1=>exact qz1);(case side2=>exact qz4);rintro e w23 ⟨rfl,hi,hb,hk⟩;have n0_:=Aside0.mk (Kd.S_mono (Kd.S_keep (IsS102.apartS (show IsS102 w0 _ g s0_0 t379 from qz1) qz19 (by decide)) hk (fun _ h=>h.2)) (fun _ h=>h.1));have n1_:=Aside0.mk (KeepBut.trans qz2 hk (.inl rfl));have n2_:=Aside0.mk (hb);have n3_:=Aside0.mk (hi);clear HO376 HK HB HI0;have HO376:=n0_;have HK:=n1_;have HB:=n2_;have HI0:=n3_;clear n0_ n1_ n2_ n3_;(try clear hb);(try clear hb2);(try clear hk);(try clear hi))|((with_reducible refine gate_dst (N:=24) rfl ?_);refine Kd.R_lit (Kd.int .i64) _ 3 ?hg (N:=24) ?hd (xs:=([(-1),100000]:List Int)) (inner:=[.int .i64 (-1),.int .i64 100000]) (ok:=fun _=>True) (okp:=fun _=>True) ?hr ?hp (fun _ hk=>hk) trivial (Below.refl _ _) (Nat.le_refl _) (by simp) ?_;(case hd=>rfl);(case hg=>rfl);(case hr=>first|(go_simp;done)|(go_simp;rfl));(case hp=>exact (Reps.one (show Kd.M (Kd.int .i64) _ _ _ (-1) [.int .i64 (-1)] from rfl) (Reps.one (show Kd.M (Kd.int .i64) _ _ _ 100000 [.int .i64 100000] from rfl) (Reps.none _ _))));intro v389 w24 ho25 hb hg_ hnew_;clear hg_ hnew_;(first|rw [← Ny388.out] at ho25|(simp only [Int.reduceToNat] at ho25;rw [← Ny388.out] at ho25));have n0_:=Aside0.mk (Kd.S_below qz19 hb);have n1_:=Aside0.mk (Kd.R_lower ho25 (keep_size (w:=w) (g:=g) (row:=none) qz2));have n2_:=Aside0.mk (IsS102.below qz1 hb);have n3_:=Aside0.mk (KeepBut.trans qz2 (KeepBut.of_below hb g none) (.inl rfl));have n4_:=Aside0.mk (below_step qz4 hb);clear HO376 HI0 HK HB;have HO376:=n0_;have HO390:=n1_;have HI0:=n2_;have HK:=n3_;have HB:=n4_;clear n0_ n1_ n2_ n3_ n4_ hb ho25)|(go_at_call 52;(with_reducible refine (spec_l20Rd_pick.calls k g s0_0 t381 2 t391 t392 w0 _ ?side1 ?side2 A17.out).mono ?_);(case side1=>exact qz1);(case side2=>exact qz4);rintro e w26 ⟨rfl,hi,hb,hk⟩;have n0_:=Aside0.mk (Kd.S_mono (Kd.S_keep (IsS102.apartS (show IsS102 w0 _ g s0_0 t381 from qz1) qz19 (by decide)) hk (fun _ h=>h.2)) (fun _ h=>h.1));have n1_:=Aside0.mk (Kd.R_mono (Kd.R_keep (IsS102.apart (show IsS102 w0 _ g s0_0 t381 from qz1) qz63 (by decide)) hk (fun _ h=>h.2)) (fun _ h=>h.1));have n2_:=Aside0.mk (KeepBut.trans qz2 hk (.inl rfl));have n3_:=Aside0.mk (hb);have n4_:=Aside0.mk (hi);clear HO376 HO390 HK HB HI0;have HO376:=n0_;have HO390:=n1_;have HK:=n2_;have HB:=n3_;have HI0:=n4_;clear n0_ n1_ n2_ n3_ n4_;(try clear hb);(try clear hb2);(try clear hk);(try clear hi);obtain ⟨Ao27,co27,eo27⟩:=Kd.R_slice HO390.out;subst eo27;have p393:0≤(t391:Int):=of_decide_eq_true qz7;have q393:t391<(y388.length:Int):=of_decide_eq_true qz7;obtain ⟨ad393,e393,hx393_0⟩:=Kd.at_int (Kd.R_reads' HO390.out).2.2 t391 p393 q393;cases e393;replace p393:=eq_true p393;replace q393:=eq_true q393)|((with_reducible refine gate_dst (N:=30) rfl ?_);refine Kd.R_lit k46 _ 46 ?hg (N:=30) ?hd (xs:=([(⟨2,0,(⟨#[]⟩:ByteArray)⟩:S46)]:List (S46))) (inner:=[.int .i64 2,.int .i64 0,.string (⟨#[]⟩:ByteArray)]) (ok:=fun _=>True) (okp:=fun _=>True) ?hr ?hp (fun _ hk=>hk) trivial (Below.refl _ _) (Nat.le_refl _) (by simp) ?_;(case hd=>rfl);(case hg=>rfl);(case hr=>first|(go_simp;done)|(go_simp;rfl));(case hp=>exact (Reps.c3 (show Kd.M k46 _ _ _ (⟨2,0,(⟨#[]⟩:ByteArray)⟩:S46) [.int .i64 2,.int .i64 0,.string (⟨#[]⟩:ByteArray)] from (k46_mkM _ _ _ (⟨2,0,(⟨#[]⟩:ByteArray)⟩:S46) )) (Reps.none _ _)));intro v395 w28 ho29 hb hg_ hnew_;clear hg_ hnew_;(first|rw [← Ny394.out] at ho29|(simp only [Int.reduceToNat] at ho29;rw [← Ny394.out] at ho29));have n0_:=Aside0.mk (Kd.S_elder' qz19 (Kd.R_base ho29) hb);have n1_:=Aside0.mk (Kd.R_below qz63 hb);have n2_:=Aside0.mk (Kd.R_lower ho29 (keep_size (w:=w) (g:=g) (row:=none) qz2));have n3_:=Aside0.mk (IsS102.below qz1 hb);have n4_:=Aside0.mk (KeepBut.trans qz2 (KeepBut.of_below hb g none) (.inl rfl));have n5_:=Aside0.mk (below_step qz4 hb);clear HO376 HO390 HI0 HK HB;have HO376:=n0_;have HO390:=n1_;have HO396:=n2_;have HI0:=n3_;have HK:=n4_;have HB:=n5_;clear n0_ n1_ n2_ n3_ n4_ n5_ hb ho29;obtain ⟨Ao30,co30,eo30⟩:=Kd.R_slice HO396.out;subst eo30)|((with_reducible refine gate_builtin (b:=.append) (xs:=#[.tmp 23,.tmp 32]) rfl ?_);at_builtin;refine Kd.S_append k30 w.heap.size rfl (.tmp 23) (.tmp 32) 23 30 (.agg #[(.int .i64 0),(.slice none 0 0)]) 32 rfl Tryd.underlying23 info30 rfl (by decide) (by omega) v375 t374 (⟨rd y388 t391,y394⟩:S30) [.int .i64 (rd y388 t391),.slice Ao30 y394.length co30] (fun _=>True) (fun k_=>some k_=(.slice Ao30 y394.length co30:Value).ownBlock) rfl rfl ?aP (fun k_ hk_=>((Kd.R_mono (ok':=fun k_=>((fun _=>True)) k_∧some k_≠(v375:Value).ownBlock) (Kd.R_apart' (HO396.out) (Kd.S_typed HO376.out) (by decide)) (fun k_ hk=>⟨trivial,hk.2⟩))).1 k_ hk_.symm) ?aF ?aO (Below.refl _ _) ?aS ?aL ?_;(case aP=>exact k30_mkM _ _ _ (⟨rd y388 t391,y394⟩:S30) (Kd.R_mono (Kd.R_tight rfl (Kd.R_mono (ok':=fun k_=>((fun _=>True)) k_∧some k_≠(v375:Value).ownBlock) (Kd.R_apart' (HO396.out) (Kd.S_typed HO376.out) (by decide)) (fun k_ hk=>⟨trivial,hk.2⟩))) (fun _ h_=>h_)));(case aF=>exact (fun _ _=>trivial));(case aO=>exact qz59);(case aS=>exact (keep_size (w:=w) (g:=g) (row:=none) qz2));(case aL=>have:=LMc20.out;omega);intro v398 w31 ho hb hg hat;rw [← Ny397.out] at ho;have n0_:=Aside0.mk (IsS102.grown qz1 hg (IsS102.own_neS HI0.out HO376.out (by decide)));have n1_:=Aside0.mk (Kd.R_over' qz63 (Kd.S_typed qz19) (by decide) hg);have n2_:=Aside0.mk (below_weaken qz4 HL.out hb);have n3_:=Aside0.mk (KeepBut.trans qz2 (KeepBut.of_grown hg g) (Kd.S_base2 HO376.out));have n4_:=Aside0.mk (ho);clear HI0 HO390 HB HK HO376 HO396;have HI0:=n0_;have HO390:=n1_;have HB:=n2_;have HK:=n3_;have HO399:=n4_;clear n0_ n1_ n2_ n3_ n4_ ho hb hg hat))
       go_ret
       exact ⟨_,qz8,by (with_reducible repeat (first|apply Kd.S_alloc|apply Kd.S_drewN|apply Kd.S_drew));exact HO399.out,qz1,qz4,qz2⟩
      ·rw [if_neg c20] at H
       exact absurd H (by simp)
     ·rw [if_neg c19] at H
      exact absurd H (by simp)
    ·rw [if_neg c18] at H
     exact absurd H (by simp)
   ·rw [if_neg c16] at H
    have c16b0:(t380 == 1)=false:=beq_eq_false_iff_ne.mpr c16
    have c16b1:(t380 != 1)=true:=bne_iff_ne.mpr c16
    by_cases c32:t380=2
    ·rw [if_pos c32] at H
     have c32b0:(t380 == 2)=true:=beq_iff_eq.mpr c32
     have c32b1:(t380 != 2)=false:=bne_eq_false_iff_eq.mpr c32
     clear c32
     replace H:=Option.bind_eq_some_iff.mp H
     obtain ⟨⟨t400,t403⟩,A330,H⟩:=H
     try dsimp only at H
     have A33:=Aside0.mk A330
     clear A330
     replace H:=Option.bind_eq_some_iff.mp H
     obtain ⟨⟨t404,t407⟩,A340,H⟩:=H
     try dsimp only at H
     have A34:=Aside0.mk A340
     clear A340
     by_cases c35:t374.length<4398046511104
     ·rw [if_pos c35] at H
      have LMc35:=Aside0.mk c35
      clear c35
      obtain ⟨y408,hy408⟩:∃ y_:List (S30),y_=(t374++[(⟨9,t404⟩:S30)]):=⟨_,rfl⟩
      replace H:(some (y408,t407))=some (r1,r2):=by first|(rw [hy408];exact H)|exact H
      have Ny408:=Aside0.mk hy408
      clear hy408
      simp only [Option.some.injEq,Prod.mk.injEq] at H
      obtain ⟨rfl,rfl⟩:=H
      go_enter Tryd.func51,Tryd.ntmps51
      go_wp2_with (first|(go_at_call 88;(with_reducible refine (spec_l20Binds.calls k g s0_0 s0_1 t374 t377 w0 _ ?side1 ?side2 A3.out).mono ?_);(case side1=>exact qz1);(case side2=>exact qz4);rintro e w36 ⟨v375,rfl,ho0,hi,hb,hk⟩;have n0_:=Aside0.mk (Kd.S_lower ho0 (keep_size (w:=w) (g:=g) (row:=none) qz2));have n1_:=Aside0.mk (KeepBut.trans qz2 hk (.inl rfl));have n2_:=Aside0.mk (hb);have n3_:=Aside0.mk (hi);clear HK HB HI0;have HO376:=n0_;have HK:=n1_;have HB:=n2_;have HI0:=n3_;clear n0_ n1_ n2_ n3_;(try clear hb);(try clear hb2);(try clear hk);(try clear hi);(try clear ho0))|(go_at_call 89;(with_reducible refine (spec_l20Rd_odd.calls k g s0_0 t377 a1 true t379 w0 _ ?side1 ?side2 A4.out).mono ?_);(case side1=>exact qz1);(case side2=>exact qz4);rintro e w37 ⟨rfl,hi,hb,hk⟩;have n0_:=Aside0.mk (Kd.S_mono (Kd.S_keep (IsS102.apartS (show IsS102 w0 _ g s0_0 t377 from qz1) qz19 (by decide)) hk (fun _ h=>h.2)) (fun _ h=>h.1));have n1_:=Aside0.mk (KeepBut.trans qz2 hk (.inl rfl));have n2_:=Aside0.mk (hb);have n3_:=Aside0.mk (hi);clear HO376 HK HB HI0;have HO376:=n0_;have HK:=n1_;have HB:=n2_;have HI0:=n3_;clear n0_ n1_ n2_ n3_;(try clear hb);(try clear hb2);(try clear hk);(try clear hi))|(go_at_call 52;(with_reducible refine (spec_l20Rd_pick.calls k g s0_0 t379 4 t380 t381 w0 _ ?side1 ?side2 A6.out).mono ?_);(case side1=>exact qz1);(case side2=>exact qz4);rintro e w38 ⟨rfl,hi,hb,hk⟩;have n0_:=Aside0.mk (Kd.S_mono (Kd.S_keep (IsS102.apartS (show IsS102 w0 _ g s0_0 t379 from qz1) qz19 (by decide)) hk (fun _ h=>h.2)) (fun _ h=>h.1));have n1_:=Aside0.mk (KeepBut.trans qz2 hk (.inl rfl));have n2_:=Aside0.mk (hb);have n3_:=Aside0.mk (hi);clear HO376 HK HB HI0;have HO376:=n0_;have HK:=n1_;have HB:=n2_;have HI0:=n3_;clear n0_ n1_ n2_ n3_;(try clear hb);(try clear hb2);(try clear hk);(try clear hi))|(go_at_call 91;(with_reducible refine (spec_l20Term.calls k g s0_0 t381 8 3 t400 t403 w0 _ ?side1 ?side2 A33.out).mono ?_);(case side1=>exact qz1);(case side2=>exact qz4);rintro e w39 ⟨v401,rfl,ho0,hi,hb,hk⟩;have n0_:=Aside0.mk (Kd.S_mono (Kd.S_told (Kd.S_oldK (IsS102.apartS (show IsS102 w0 _ g s0_0 t381 from qz1) qz19 (by decide)) hk) (Kd.R_base ho0)) (fun _ h_=>h_.1));have n1_:=Aside0.mk (Kd.R_lower ho0 (keep_size (w:=w) (g:=g) (row:=none) qz2));have n2_:=Aside0.mk (KeepBut.trans qz2 hk (.inl rfl));have n3_:=Aside0.mk (hb);have n4_:=Aside0.mk (hi);clear HO376 HK HB HI0;have HO376:=n0_;have HO402:=n1_;have HK:=n2_;have HB:=n3_;have HI0:=n4_;clear n0_ n1_ n2_ n3_ n4_;(try clear hb);(try clear hb2);(try clear hk);(try clear hi);(try clear ho0);obtain ⟨Ao40,co40,eo40⟩:=Kd.R_slice HO402.out;subst eo40)|(go_at_call 90;(with_reducible refine (spec_l20Spoil.calls k g s0_0 t403 _ _ t400 t404 t407 w0 _ ?side1 ?side2 ?side3 ?side4 A34.out).mono ?_);(case side1=>exact qz1);(case side2=>exact qz4);(case side3=>exact Kd.C_foot_own (IsS102.apart (show IsS102 w0 _ g s0_0 t403 from qz1) qz52 (by decide)) (fun _ h_=>h_.2));(case side4=>exact (Kd.R_reads' HO402.out).2.1);rintro e w41 ⟨v405,rfl,ho0,hi,hb,hk⟩;have n0_:=Aside0.mk (Kd.S_mono (Kd.S_told (Kd.S_oldK (IsS102.apartS (show IsS102 w0 _ g s0_0 t403 from qz1) qz19 (by decide)) hk) (Kd.R_base ho0)) (fun _ h_=>h_.1));have n1_:=Aside0.mk (Kd.R_mono (Kd.R_told (Kd.R_oldK (IsS102.apart (show IsS102 w0 _ g s0_0 t403 from qz1) qz52 (by decide)) hk) (Kd.R_base ho0)) (fun _ h_=>h_.1));have n2_:=Aside0.mk (Kd.R_lower (Kd.R_new' ho0 (Kd.R_lt qz52)) (keep_size (w:=w) (g:=g) (row:=none) qz2));have n3_:=Aside0.mk (KeepBut.trans qz2 hk (.inl rfl));have n4_:=Aside0.mk (hb);have n5_:=Aside0.mk (hi);clear HO376 HO402 HK HB HI0;have HO376:=n0_;have HO402:=n1_;have HO406:=n2_;have HK:=n3_;have HB:=n4_;have HI0:=n5_;clear n0_ n1_ n2_ n3_ n4_ n5_;(try clear hb);(try clear hb2);(try clear hk);(try clear hi);(try clear ho0);obtain ⟨Ao42,co42,eo42⟩:=Kd.R_slice HO406.out;subst eo42)|((with_reducible refine gate_builtin (b:=.append) (xs:=#[.tmp 36,.tmp 42]) rfl ?_);at_builtin;refine Kd.S_append k30 w.heap.size rfl (.tmp 36) (.tmp 42) 23 30 (.agg #[(.int .i64 0),(.slice none 0 0)]) 32 rfl Tryd.underlying23 info30 rfl (by decide) (by omega) v375 t374 (⟨9,t404⟩:S30) [.int .i64 9,.slice Ao42 t404.length co42] (fun k_=>some k_≠(.slice Ao40 t400.length co40:Value).ownBlock) (fun k_=>some k_=(.slice Ao42 t404.length co42:Value).ownBlock) rfl rfl ?aP (fun k_ hk_=>((Kd.R_mono (ok':=fun k_=>((fun k_=>some k_≠(.slice Ao40 t400.length co40:Value).ownBlock)) k_∧some k_≠(v375:Value).ownBlock) (Kd.R_apart' (HO406.out) (Kd.S_typed HO376.out) (by decide)) (fun k_ hk=>⟨hk.1.2,hk.2⟩))).1 k_ hk_.symm) ?aF ?aO (Below.refl _ _) ?aS ?aL ?_;(case aP=>exact k30_mkM _ _ _ (⟨9,t404⟩:S30) (Kd.R_mono (Kd.R_tight rfl (Kd.R_mono (ok':=fun k_=>((fun k_=>some k_≠(.slice Ao40 t400.length co40:Value).ownBlock)) k_∧some k_≠(v375:Value).ownBlock) (Kd.R_apart' (HO406.out) (Kd.S_typed HO376.out) (by decide)) (fun k_ hk=>⟨hk.1.2,hk.2⟩))) (fun _ h_=>h_)));(case aF=>exact (fun k_ hk=>Kd.fresh' (Kd.R_lt qz52) k_ hk));(case aO=>(with_reducible repeat (first|apply Kd.S_alloc|apply Kd.S_drewN|apply Kd.S_drew));exact Kd.S_mono HO376.out (fun k_ hk=>⟨hk.1.2,fun e_=>hk.2 e_⟩));(case aS=>exact (keep_size (w:=w) (g:=g) (row:=none) qz2));(case aL=>have:=LMc35.out;omega);intro v409 w43 ho hb hg hat;rw [← Ny408.out] at ho;have n0_:=Aside0.mk (IsS102.grown qz1 hg (IsS102.own_neS HI0.out HO376.out (by decide)));have n1_:=Aside0.mk (Kd.R_over' qz52 (Kd.S_typed qz19) (by decide) hg);have n2_:=Aside0.mk (below_weaken qz4 HL.out hb);have n3_:=Aside0.mk (KeepBut.trans qz2 (KeepBut.of_grown hg g) (Kd.S_base2 HO376.out));have n4_:=Aside0.mk (ho);clear HI0 HO402 HB HK HO376 HO406;have HI0:=n0_;have HO402:=n1_;have HB:=n2_;have HK:=n3_;have HO410:=n4_;clear n0_ n1_ n2_ n3_ n4_ ho hb hg hat))
      go_ret
      exact ⟨_,qz8,by (with_reducible repeat (first|apply Kd.S_alloc|apply Kd.S_drewN|apply Kd.S_drew));exact Kd.S_mono HO410.out (fun _ hk=>trivial),qz1,qz4,qz2⟩
     ·rw [if_neg c35] at H
      exact absurd H (by simp)
    ·rw [if_neg c32] at H
     have c32b0:(t380 == 2)=false:=beq_eq_false_iff_ne.mpr c32
     have c32b1:(t380 != 2)=true:=bne_iff_ne.mpr c32
     obtain ⟨y411,hy411⟩:∃ y_:List (S46),y_=(([(⟨1,8,(⟨#[]⟩:ByteArray)⟩:S46)]:List (S46))):=⟨_,rfl⟩
     replace H:(if t374.length<4398046511104 then ((some (t374++[(⟨7,y411⟩:S30)]:List (S30))).bind fun y414=>(if y414.length<4398046511104 then (some ((y414++[(⟨8,(([(⟨3,1,(⟨#[102]⟩:ByteArray)⟩:S46),(⟨1,7,(⟨#[]⟩:ByteArray)⟩:S46)]:List (S46)))⟩:S30)]),t381)) else (none))) else (none))=some (r1,r2):=by first|(rw [hy411];exact H)|exact H
     have Ny411:=Aside0.mk hy411
     clear hy411
     by_cases c44:t374.length<4398046511104
     ·rw [if_pos c44] at H
      have LMc44:=Aside0.mk c44
      clear c44
      obtain ⟨y414,hy414⟩:∃ y_:List (S30),y_=(t374++[(⟨7,y411⟩:S30)]):=⟨_,rfl⟩
      replace H:(if y414.length<4398046511104 then (some ((y414++[(⟨8,(([(⟨3,1,(⟨#[102]⟩:ByteArray)⟩:S46),(⟨1,7,(⟨#[]⟩:ByteArray)⟩:S46)]:List (S46)))⟩:S30)]),t381)) else (none))=some (r1,r2):=by first|(rw [hy414];exact H)|exact H
      have Ny414:=Aside0.mk hy414
      clear hy414
      obtain ⟨y417,hy417⟩:∃ y_:List (S46),y_=(([(⟨3,1,(⟨#[102]⟩:ByteArray)⟩:S46),(⟨1,7,(⟨#[]⟩:ByteArray)⟩:S46)]:List (S46))):=⟨_,rfl⟩
      replace H:(if y414.length<4398046511104 then (some ((y414++[(⟨8,y417⟩:S30)]),t381)) else (none))=some (r1,r2):=by first|(rw [hy417];exact H)|exact H
      have Ny417:=Aside0.mk hy417
      clear hy417
      by_cases c45:y414.length<4398046511104
      ·rw [if_pos c45] at H
       have LMc45:=Aside0.mk c45
       clear c45
       obtain ⟨y420,hy420⟩:∃ y_:List (S30),y_=(y414++[(⟨8,y417⟩:S30)]):=⟨_,rfl⟩
       replace H:(some (y420,t381))=some (r1,r2):=by first|(rw [hy420];exact H)|exact H
       have Ny420:=Aside0.mk hy420
       clear hy420
       simp only [Option.some.injEq,Prod.mk.injEq] at H
       obtain ⟨rfl,rfl⟩:=H
       go_enter Tryd.func51,Tryd.ntmps51
       go_wp2_with (first|(go_at_call 88;(with_reducible refine (spec_l20Binds.calls k g s0_0 s0_1 t374 t377 w0 _ ?side1 ?side2 A3.out).mono ?_);(case side1=>exact qz1);(case side2=>exact qz4);rintro e w46 ⟨v375,rfl,ho0,hi,hb,hk⟩;have n0_:=Aside0.mk (Kd.S_lower ho0 (keep_size (w:=w) (g:=g) (row:=none) qz2));have n1_:=Aside0.mk (KeepBut.trans qz2 hk (.inl rfl));have n2_:=Aside0.mk (hb);have n3_:=Aside0.mk (hi);clear HK HB HI0;have HO376:=n0_;have HK:=n1_;have HB:=n2_;have HI0:=n3_;clear n0_ n1_ n2_ n3_;(try clear hb);(try clear hb2);(try clear hk);(try clear hi);(try clear ho0))|(go_at_call 89;(with_reducible refine (spec_l20Rd_odd.calls k g s0_0 t377 a1 true t379 w0 _ ?side1 ?side2 A4.out).mono ?_);(case side1=>exact qz1);(case side2=>exact qz4);rintro e w47 ⟨rfl,hi,hb,hk⟩;have n0_:=Aside0.mk (Kd.S_mono (Kd.S_keep (IsS102.apartS (show IsS102 w0 _ g s0_0 t377 from qz1) qz19 (by decide)) hk (fun _ h=>h.2)) (fun _ h=>h.1));have n1_:=Aside0.mk (KeepBut.trans qz2 hk (.inl rfl));have n2_:=Aside0.mk (hb);have n3_:=Aside0.mk (hi);clear HO376 HK HB HI0;have HO376:=n0_;have HK:=n1_;have HB:=n2_;have HI0:=n3_;clear n0_ n1_ n2_ n3_;(try clear hb);(try clear hb2);(try clear hk);(try clear hi))|(go_at_call 52;(with_reducible refine (spec_l20Rd_pick.calls k g s0_0 t379 4 t380 t381 w0 _ ?side1 ?side2 A6.out).mono ?_);(case side1=>exact qz1);(case side2=>exact qz4);rintro e w48 ⟨rfl,hi,hb,hk⟩;have n0_:=Aside0.mk (Kd.S_mono (Kd.S_keep (IsS102.apartS (show IsS102 w0 _ g s0_0 t379 from qz1) qz19 (by decide)) hk (fun _ h=>h.2)) (fun _ h=>h.1));have n1_:=Aside0.mk (KeepBut.trans qz2 hk (.inl rfl));have n2_:=Aside0.mk (hb);have n3_:=Aside0.mk (hi);clear HO376 HK HB HI0;have HO376:=n0_;have HK:=n1_;have HB:=n2_;have HI0:=n3_;clear n0_ n1_ n2_ n3_;(try clear hb);(try clear hb2);(try clear hk);(try clear hi))|((with_reducible refine gate_dst (N:=46) rfl ?_);refine Kd.R_lit k46 _ 46 ?hg (N:=46) ?hd (xs:=([(⟨1,8,(⟨#[]⟩:ByteArray)⟩:S46)]:List (S46))) (inner:=[.int .i64 1,.int .i64 8,.string (⟨#[]⟩:ByteArray)]) (ok:=fun _=>True) (okp:=fun _=>True) ?hr ?hp (fun _ hk=>hk) trivial (Below.refl _ _) (Nat.le_refl _) (by simp) ?_;(case hd=>rfl);(case hg=>rfl);(case hr=>first|(go_simp;done)|(go_simp;rfl));(case hp=>exact (Reps.c3 (show Kd.M k46 _ _ _ (⟨1,8,(⟨#[]⟩:ByteArray)⟩:S46) [.int .i64 1,.int .i64 8,.string (⟨#[]⟩:ByteArray)] from (k46_mkM _ _ _ (⟨1,8,(⟨#[]⟩:ByteArray)⟩:S46) )) (Reps.none _ _)));intro v412 w49 ho50 hb hg_ hnew_;clear hg_ hnew_;(first|rw [← Ny411.out] at ho50|(simp only [Int.reduceToNat] at ho50;rw [← Ny411.out] at ho50));have n0_:=Aside0.mk (Kd.S_elder' qz19 (Kd.R_base ho50) hb);have n1_:=Aside0.mk (Kd.R_lower ho50 (keep_size (w:=w) (g:=g) (row:=none) qz2));have n2_:=Aside0.mk (IsS102.below qz1 hb);have n3_:=Aside0.mk (KeepBut.trans qz2 (KeepBut.of_below hb g none) (.inl rfl));have n4_:=Aside0.mk (below_step qz4 hb);clear HO376 HI0 HK HB;have HO376:=n0_;have HO413:=n1_;have HI0:=n2_;have HK:=n3_;have HB:=n4_;clear n0_ n1_ n2_ n3_ n4_ hb ho50;obtain ⟨Ao51,co51,eo51⟩:=Kd.R_slice HO413.out;subst eo51)|((with_reducible refine gate_builtin (b:=.append) (xs:=#[.tmp 44,.tmp 48]) rfl ?_);at_builtin;refine Kd.S_append k30 w.heap.size rfl (.tmp 44) (.tmp 48) 23 30 (.agg #[(.int .i64 0),(.slice none 0 0)]) 32 rfl Tryd.underlying23 info30 rfl (by decide) (by omega) v375 t374 (⟨7,y411⟩:S30) [.int .i64 7,.slice Ao51 y411.length co51] (fun _=>True) (fun k_=>some k_=(.slice Ao51 y411.length co51:Value).ownBlock) rfl rfl ?aP (fun k_ hk_=>((Kd.R_mono (ok':=fun k_=>((fun _=>True)) k_∧some k_≠(v375:Value).ownBlock) (Kd.R_apart' (HO413.out) (Kd.S_typed HO376.out) (by decide)) (fun k_ hk=>⟨trivial,hk.2⟩))).1 k_ hk_.symm) ?aF ?aO (Below.refl _ _) ?aS ?aL ?_;(case aP=>exact k30_mkM _ _ _ (⟨7,y411⟩:S30) (Kd.R_mono (Kd.R_tight rfl (Kd.R_mono (ok':=fun k_=>((fun _=>True)) k_∧some k_≠(v375:Value).ownBlock) (Kd.R_apart' (HO413.out) (Kd.S_typed HO376.out) (by decide)) (fun k_ hk=>⟨trivial,hk.2⟩))) (fun _ h_=>h_)));(case aF=>exact (fun _ _=>trivial));(case aO=>exact qz59);(case aS=>exact (keep_size (w:=w) (g:=g) (row:=none) qz2));(case aL=>have:=LMc44.out;omega);intro v415 w52 ho hb hg hat;rw [← Ny414.out] at ho;have n0_:=Aside0.mk (IsS102.grown qz1 hg (IsS102.own_neS HI0.out HO376.out (by decide)));have n1_:=Aside0.mk (below_weaken qz4 HL.out hb);have n2_:=Aside0.mk (KeepBut.trans qz2 (KeepBut.of_grown hg g) (Kd.S_base2 HO376.out));have n3_:=Aside0.mk (ho);clear HI0 HB HK HO376 HO413;have HI0:=n0_;have HB:=n1_;have HK:=n2_;have HO416:=n3_;clear n0_ n1_ n2_ n3_ ho hb hg hat)|((with_reducible refine gate_dst (N:=52) rfl ?_);refine Kd.R_lit k46 _ 46 ?hg (N:=52) ?hd (xs:=([(⟨3,1,(⟨#[102]⟩:ByteArray)⟩:S46),(⟨1,7,(⟨#[]⟩:ByteArray)⟩:S46)]:List (S46))) (inner:=[.int .i64 3,.int .i64 1,.string (⟨#[102]⟩:ByteArray),.int .i64 1,.int .i64 7,.string (⟨#[]⟩:ByteArray)]) (ok:=fun _=>True) (okp:=fun _=>True) ?hr ?hp (fun _ hk=>hk) trivial (Below.refl _ _) (Nat.le_refl _) (by simp) ?_;(case hd=>rfl);(case hg=>rfl);(case hr=>first|(go_simp;done)|(go_simp;rfl));(case hp=>exact (Reps.c3 (show Kd.M k46 _ _ _ (⟨3,1,(⟨#[102]⟩:ByteArray)⟩:S46) [.int .i64 3,.int .i64 1,.string (⟨#[102]⟩:ByteArray)] from (k46_mkM _ _ _ (⟨3,1,(⟨#[102]⟩:ByteArray)⟩:S46) )) (Reps.c3 (show Kd.M k46 _ _ _ (⟨1,7,(⟨#[]⟩:ByteArray)⟩:S46) [.int .i64 1,.int .i64 7,.string (⟨#[]⟩:ByteArray)] from (k46_mkM _ _ _ (⟨1,7,(⟨#[]⟩:ByteArray)⟩:S46) )) (Reps.none _ _))));intro v418 w53 ho54 hb hg_ hnew_;clear hg_ hnew_;(first|rw [← Ny417.out] at ho54|(simp only [Int.reduceToNat] at ho54;rw [← Ny417.out] at ho54));have n0_:=Aside0.mk (Kd.S_elder' (by (with_reducible repeat (first|apply Kd.S_alloc|apply Kd.S_drewN|apply Kd.S_drew));exact HO416.out) (Kd.R_base ho54) hb);have n1_:=Aside0.mk (Kd.R_lower ho54 (keep_size (w:=w) (g:=g) (row:=none) qz2));have n2_:=Aside0.mk (IsS102.below qz1 hb);have n3_:=Aside0.mk (KeepBut.trans qz2 (KeepBut.of_below hb g none) (.inl rfl));have n4_:=Aside0.mk (below_step qz4 hb);clear HO416 HI0 HK HB;have HO416:=n0_;have HO419:=n1_;have HI0:=n2_;have HK:=n3_;have HB:=n4_;clear n0_ n1_ n2_ n3_ n4_ hb ho54;obtain ⟨Ao55,co55,eo55⟩:=Kd.R_slice HO419.out;subst eo55)|((with_reducible refine gate_builtin (b:=.append) (xs:=#[.tmp 49,.tmp 54]) rfl ?_);at_builtin;refine Kd.S_append k30 w.heap.size rfl (.tmp 49) (.tmp 54) 23 30 (.agg #[(.int .i64 0),(.slice none 0 0)]) 32 rfl Tryd.underlying23 info30 rfl (by decide) (by omega) v415 y414 (⟨8,y417⟩:S30) [.int .i64 8,.slice Ao55 y417.length co55] (fun _=>True) (fun k_=>some k_=(.slice Ao55 y417.length co55:Value).ownBlock) rfl rfl ?aP (fun k_ hk_=>((Kd.R_mono (ok':=fun k_=>((fun _=>True)) k_∧some k_≠(v415:Value).ownBlock) (Kd.R_apart' (HO419.out) (Kd.S_typed HO416.out) (by decide)) (fun k_ hk=>⟨trivial,hk.2⟩))).1 k_ hk_.symm) ?aF ?aO (Below.refl _ _) ?aS ?aL ?_;(case aP=>exact k30_mkM _ _ _ (⟨8,y417⟩:S30) (Kd.R_mono (Kd.R_tight rfl (Kd.R_mono (ok':=fun k_=>((fun _=>True)) k_∧some k_≠(v415:Value).ownBlock) (Kd.R_apart' (HO419.out) (Kd.S_typed HO416.out) (by decide)) (fun k_ hk=>⟨trivial,hk.2⟩))) (fun _ h_=>h_)));(case aF=>exact (fun _ _=>trivial));(case aO=>(with_reducible repeat (first|apply Kd.S_alloc|apply Kd.S_drewN|apply Kd.S_drew));exact Kd.S_mono HO416.out (fun k_ hk=>⟨trivial,fun e_=>hk.2 e_⟩));(case aS=>exact (keep_size (w:=w) (g:=g) (row:=none) qz2));(case aL=>have:=LMc45.out;omega);intro v421 w56 ho hb hg hat;rw [← Ny420.out] at ho;have n0_:=Aside0.mk (IsS102.grown qz1 hg (IsS102.own_neS HI0.out HO416.out (by decide)));have n1_:=Aside0.mk (below_weaken qz4 HL.out hb);have n2_:=Aside0.mk (KeepBut.trans qz2 (KeepBut.of_grown hg g) (Kd.S_base2 HO416.out));have n3_:=Aside0.mk (ho);clear HI0 HB HK HO416 HO419;have HI0:=n0_;have HB:=n1_;have HK:=n2_;have HO422:=n3_;clear n0_ n1_ n2_ n3_ ho hb hg hat))
       go_ret
       exact ⟨_,qz8,by (with_reducible repeat (first|apply Kd.S_alloc|apply Kd.S_drewN|apply Kd.S_drew));exact HO422.out,qz1,qz4,qz2⟩
      ·rw [if_neg c45] at H
       exact absurd H (by simp)
     ·rw [if_neg c44] at H
      exact absurd H (by simp)
 ·replace c5:=Bool.eq_false_iff.mpr c5
  subst c5
  have H1:(some (t374,t379))=some (r1,r2):=qz22
  clear H
  have H:=H1
  clear H1
  simp only [Option.some.injEq,Prod.mk.injEq] at H
  obtain ⟨rfl,rfl⟩:=H
  go_enter Tryd.func51,Tryd.ntmps51
  go_wp2_with (first|(go_at_call 88;(with_reducible refine (spec_l20Binds.calls k g s0_0 s0_1 t374 t377 w0 _ ?side1 ?side2 A3.out).mono ?_);(case side1=>exact qz1);(case side2=>exact qz4);rintro e w57 ⟨v375,rfl,ho0,hi,hb,hk⟩;have n0_:=Aside0.mk (Kd.S_lower ho0 (keep_size (w:=w) (g:=g) (row:=none) qz2));have n1_:=Aside0.mk (KeepBut.trans qz2 hk (.inl rfl));have n2_:=Aside0.mk (hb);have n3_:=Aside0.mk (hi);clear HK HB HI0;have HO376:=n0_;have HK:=n1_;have HB:=n2_;have HI0:=n3_;clear n0_ n1_ n2_ n3_;(try clear hb);(try clear hb2);(try clear hk);(try clear hi);(try clear ho0))|(go_at_call 89;(with_reducible refine (spec_l20Rd_odd.calls k g s0_0 t377 a1 false t379 w0 _ ?side1 ?side2 A4.out).mono ?_);(case side1=>exact qz1);(case side2=>exact qz4);rintro e w58 ⟨rfl,hi,hb,hk⟩;have n0_:=Aside0.mk (Kd.S_mono (Kd.S_keep (IsS102.apartS (show IsS102 w0 _ g s0_0 t377 from qz1) qz19 (by decide)) hk (fun _ h=>h.2)) (fun _ h=>h.1));have n1_:=Aside0.mk (KeepBut.trans qz2 hk (.inl rfl));have n2_:=Aside0.mk (hb);have n3_:=Aside0.mk (hi);clear HO376 HK HB HI0;have HO376:=n0_;have HK:=n1_;have HB:=n2_;have HI0:=n3_;clear n0_ n1_ n2_ n3_;(try clear hb);(try clear hb2);(try clear hk);(try clear hi)))
  go_ret
  exact ⟨_,qz8,qz19,qz1,qz4,qz2⟩

/-! ### spec_DrawSubOk: function 28 -/
def spec_DrawSubOk.f (k:Nat) (l0:List Int):Option ((List (S30))):=(spec_l20Open.f l0).bind fun bt423=>((spec_l20BindsOr.f k bt423.1 bt423.2 2).bind fun bt426=>(some bt426.1))
set_option maxHeartbeats 8000000 in
set_option maxRecDepth 100000 in
theorem spec_DrawSubOk.calls (k:Nat) (A0:Option Addr) (c0:Nat) (l0:List Int) (r:List (S30)) (w:World) (hr0:Kd.C (Kd.int .u8) w A0 l0.length l0) (hc0:l0.length≤c0) (h:spec_DrawSubOk.f k l0=some r) :
  Calls Tryd.prog 28 #[.slice A0 l0.length c0] w fun e w'=>∃ v0_:Value,e = .returned (v0_)∧Kd.S k30 30 w' w.heap.size (fun _=>True) v0_ r∧Below w.heap.size w w':=by
 have HR0:=Aside0.mk hr0
 have HC0:=Aside0.mk hc0
 clear hr0 hc0
 have HB:=Aside0.mk (Below.refl w.heap.size w)
 have H:((spec_l20Open.f l0).bind fun bt423=>((spec_l20BindsOr.f k bt423.1 bt423.2 2).bind fun bt426=>(some bt426.1)))=some r:=h
 clear h
 replace H:=Option.bind_eq_some_iff.mp H
 obtain ⟨⟨t423,t424⟩,A20,H⟩:=H
 try dsimp only at H
 have A2:=Aside0.mk A20
 clear A20
 replace H:=Option.bind_eq_some_iff.mp H
 obtain ⟨⟨t426,t429⟩,A30,H⟩:=H
 try dsimp only at H
 have A3:=Aside0.mk A30
 clear A30
 obtain rfl:=Option.some.inj H
 go_enter Tryd.func28,Tryd.ntmps28
 go_wp2_with (first|(go_at_call 50;(with_reducible refine (spec_l20Open.calls _ _ l0 t423 t424 w _ ?side1 ?side2 ?side3 A2.out).mono ?_);(case side1=>exact qz6);(case side2=>exact HR0.out);(case side3=>exact HC0.out);rintro e w4 ⟨g425,rfl,hi,hb,hb2⟩;have n0_:=Aside0.mk (hb);have n1_:=Aside0.mk (hi);clear HB;have HB:=n0_;have HI425:=n1_;clear n0_ n1_;(try clear hb);(try clear hb2);(try clear hk);(try clear hi))|(go_at_call 51;(with_reducible refine (spec_l20BindsOr.calls k g425 t423 t424 2 t426 t429 w _ ?side1 ?side2 A3.out).mono ?_);(case side1=>repeat (first|(with_reducible first|exact HI425.out|apply IsS102.alloc|apply IsS102.drewN|apply IsS102.drew|apply IsS102.set_1)|exact HI425.out));(case side2=>exact qz57);rintro e w5 ⟨v427,rfl,ho0,hi,hb,hk⟩;have n0_:=Aside0.mk (Kd.S_lower ho0 (below_size qz57));have n1_:=Aside0.mk (hb);have n2_:=Aside0.mk (hi);clear HB HI425;have HO428:=n0_;have HB:=n1_;have HI425:=n2_;clear n0_ n1_ n2_;(try clear hb);(try clear hb2);(try clear hk);(try clear hi);(try clear ho0)))
 go_ret
 exact ⟨_,qz8,by (with_reducible repeat (first|apply Kd.S_alloc|apply Kd.S_drewN|apply Kd.S_drew));exact HO428.out,qz57⟩

end Go.Proofs.YtlaicnoikeieeaaDoor.P
