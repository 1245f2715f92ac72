/- Contracts of functions of the program: each as a Lean function, and that its call does what that says; printed by cprint.py (this session) over print.py of the kit. Conditions: the hypotheses of each theorem. -/
import Derived.Test.YtlaicnoikeieeaaDoorVZ
import Derived.Test.YtlaicnoikeieeaaDoorP0
import Derived.Test.YtlaicnoikeieeaaDoorP16
import Derived.Test.YtlaicnoikeieeaaDoorP17
import Derived.Test.YtlaicnoikeieeaaDoorP18
namespace Go.Proofs.YtlaicnoikeieeaaDoor.P
open Go.RowKit Go.Proofs.YtlaicnoikeieeaaDoorW.PrintWords Go.Proofs.YtlaicnoikeieeaaDoorW.PrintLast Go.Proofs.YtlaicnoikeieeaaDoorW.PrintMore
attribute [local go_sem] max2_int min2_int max_two min_two max_three min_three max_four min_four   -- for this text's walks alone
set_option linter.unusedVariables false
set_option linter.unusedSimpArgs false

/-! ### spec_l20BindsOr: function 51 -/
def spec_l20BindsOr.f (k:Nat) (s0_0:List Int) (s0_1:Int) (a1:Int):Option ((List (S30)) × Int):=(spec_l20Binds.f k s0_0 s0_1).bind fun bt394=>((spec_l20Rd_odd.f k s0_0 bt394.2 a1).bind fun bt398=>(if bt398.1=true then ((spec_l20Rd_pick.f k s0_0 bt398.2 4).bind fun bt400=>(if bt400.1=0 then (if bt394.1.length<4398046511104 then (some ((bt394.1++[(⟨0,(([(⟨1,0,(⟨#[]⟩:ByteArray)⟩:S46)]:List (S46)))⟩:S30)]),bt400.2)) else (none)) else (if bt400.1=1 then ((some (([(-1),100000]:List Int):List Int)).bind fun y408=>((spec_l20Rd_pick.f k s0_0 bt400.2 2).bind fun bt411=>(if 0≤bt411.1 then (if bt411.1<(y408.length:Int) then (if bt394.1.length<4398046511104 then (some ((bt394.1++[(⟨rd y408 bt411.1,(([(⟨2,0,(⟨#[]⟩:ByteArray)⟩:S46)]:List (S46)))⟩:S30)]),bt411.2)) else (none)) else (none)) else (none)))) else (if bt400.1=2 then ((spec_l20Term.f k s0_0 bt400.2 8 3).bind fun bt420=>((spec_l20Spoil.f k s0_0 bt420.2 bt420.1).bind fun bt424=>(if bt394.1.length<4398046511104 then (some ((bt394.1++[(⟨9,bt424.1⟩:S30)]),bt424.2)) else (none)))) else (if bt394.1.length<4398046511104 then ((some (bt394.1++[(⟨7,(([(⟨1,8,(⟨#[]⟩:ByteArray)⟩:S46)]:List (S46)))⟩:S30)]:List (S30))).bind fun y434=>(if y434.length<4398046511104 then (some ((y434++[(⟨8,(([(⟨3,1,(⟨#[102]⟩:ByteArray)⟩:S46),(⟨1,7,(⟨#[]⟩:ByteArray)⟩:S46)]:List (S46)))⟩:S30)]),bt400.2)) else (none))) else (none)))))) else (some (bt394.1,bt398.2))))
set_option maxHeartbeats 8000000 in
set_option maxRecDepth 100000 in
theorem spec_l20BindsOr.calls (k:Nat) (g:Nat) (s0_0:List Int) (s0_1:Int) (a1:Int) (r1:List (S30)) (r2:Int) (w0 w:World) (hI:IsS102 w0 w g s0_0 s0_1) (hB:Below w0.heap.size w0 w) (h:spec_l20BindsOr.f k s0_0 s0_1 a1=some (r1,r2)) :
  Calls Tryd.prog 51 #[.pointer (some ⟨g,0,none⟩),.int .i64 a1] w fun e w'=>∃ v0_:Value,e = .returned (v0_)∧Kd.S k30 30 w' w.heap.size (fun _=>True) v0_ r1∧IsS102 w0 w' g s0_0 r2∧Below w0.heap.size w0 w'∧KeepBut w w' g none:=by
 have hu46:=Tryd.underlying46
 have hu30:=Tryd.underlying30
 have HI0:=Aside0.mk hI
 have HK:=Aside0.mk (KeepBut.refl w g none)
 have HL:=Aside0.mk hB.size
 clear hI
 have HW0:=Aside0.mk hB.size
 have HB:=Aside0.mk hB
 clear hB
 have H:((spec_l20Binds.f k s0_0 s0_1).bind fun bt394=>((spec_l20Rd_odd.f k s0_0 bt394.2 a1).bind fun bt398=>(if bt398.1=true then ((spec_l20Rd_pick.f k s0_0 bt398.2 4).bind fun bt400=>(if bt400.1=0 then (if bt394.1.length<4398046511104 then (some ((bt394.1++[(⟨0,(([(⟨1,0,(⟨#[]⟩:ByteArray)⟩:S46)]:List (S46)))⟩:S30)]),bt400.2)) else (none)) else (if bt400.1=1 then ((some (([(-1),100000]:List Int):List Int)).bind fun y408=>((spec_l20Rd_pick.f k s0_0 bt400.2 2).bind fun bt411=>(if 0≤bt411.1 then (if bt411.1<(y408.length:Int) then (if bt394.1.length<4398046511104 then (some ((bt394.1++[(⟨rd y408 bt411.1,(([(⟨2,0,(⟨#[]⟩:ByteArray)⟩:S46)]:List (S46)))⟩:S30)]),bt411.2)) else (none)) else (none)) else (none)))) else (if bt400.1=2 then ((spec_l20Term.f k s0_0 bt400.2 8 3).bind fun bt420=>((spec_l20Spoil.f k s0_0 bt420.2 bt420.1).bind fun bt424=>(if bt394.1.length<4398046511104 then (some ((bt394.1++[(⟨9,bt424.1⟩:S30)]),bt424.2)) else (none)))) else (if bt394.1.length<4398046511104 then ((some (bt394.1++[(⟨7,(([(⟨1,8,(⟨#[]⟩:ByteArray)⟩:S46)]:List (S46)))⟩:S30)]:List (S30))).bind fun y434=>(if y434.length<4398046511104 then (some ((y434++[(⟨8,(([(⟨3,1,(⟨#[102]⟩:ByteArray)⟩:S46),(⟨1,7,(⟨#[]⟩:ByteArray)⟩:S46)]:List (S46)))⟩:S30)]),bt400.2)) else (none))) else (none)))))) else (some (bt394.1,bt398.2)))))=some (r1,r2):=h
 clear h
 replace H:=Option.bind_eq_some_iff.mp H
 obtain ⟨⟨t394,t397⟩,A30,H⟩:=H
 try dsimp only at H
 have A3:=Aside0.mk A30
 clear A30
 replace H:=Option.bind_eq_some_iff.mp H
 obtain ⟨⟨t398,t399⟩,A40,H⟩:=H
 try dsimp only at H
 have A4:=Aside0.mk A40
 clear A40
 by_cases c5:t398=true
 ·subst c5
  have H1:((spec_l20Rd_pick.f k s0_0 t399 4).bind fun bt400=>(if bt400.1=0 then (if t394.length<4398046511104 then (some ((t394++[(⟨0,(([(⟨1,0,(⟨#[]⟩:ByteArray)⟩:S46)]:List (S46)))⟩:S30)]),bt400.2)) else (none)) else (if bt400.1=1 then ((some (([(-1),100000]:List Int):List Int)).bind fun y408=>((spec_l20Rd_pick.f k s0_0 bt400.2 2).bind fun bt411=>(if 0≤bt411.1 then (if bt411.1<(y408.length:Int) then (if t394.length<4398046511104 then (some ((t394++[(⟨rd y408 bt411.1,(([(⟨2,0,(⟨#[]⟩:ByteArray)⟩:S46)]:List (S46)))⟩:S30)]),bt411.2)) else (none)) else (none)) else (none)))) else (if bt400.1=2 then ((spec_l20Term.f k s0_0 bt400.2 8 3).bind fun bt420=>((spec_l20Spoil.f k s0_0 bt420.2 bt420.1).bind fun bt424=>(if t394.length<4398046511104 then (some ((t394++[(⟨9,bt424.1⟩:S30)]),bt424.2)) else (none)))) else (if t394.length<4398046511104 then ((some (t394++[(⟨7,(([(⟨1,8,(⟨#[]⟩:ByteArray)⟩:S46)]:List (S46)))⟩:S30)]:List (S30))).bind fun y434=>(if y434.length<4398046511104 then (some ((y434++[(⟨8,(([(⟨3,1,(⟨#[102]⟩:ByteArray)⟩:S46),(⟨1,7,(⟨#[]⟩:ByteArray)⟩:S46)]:List (S46)))⟩:S30)]),bt400.2)) else (none))) else (none))))))=some (r1,r2):=qz34
  clear H
  have H:=H1
  clear H1
  replace H:=Option.bind_eq_some_iff.mp H
  obtain ⟨⟨t400,t401⟩,A60,H⟩:=H
  try dsimp only at H
  have A6:=Aside0.mk A60
  clear A60
  by_cases c7:t400=0
  ·rw [if_pos c7] at H
   have c7b0:(t400 == 0)=true:=beq_iff_eq.mpr c7
   have c7b1:(t400 != 0)=false:=bne_eq_false_iff_eq.mpr c7
   clear c7
   obtain ⟨y402,hy402⟩:∃ y_:List (S46),y_=(([(⟨1,0,(⟨#[]⟩:ByteArray)⟩:S46)]:List (S46))):=⟨_,rfl⟩
   replace H:(if t394.length<4398046511104 then (some ((t394++[(⟨0,y402⟩:S30)]),t401)) else (none))=some (r1,r2):=by first|(rw [hy402];exact H)|exact H
   have Ny402:=Aside0.mk hy402
   clear hy402
   by_cases c8:t394.length<4398046511104
   ·rw [if_pos c8] at H
    have LMc8:=Aside0.mk c8
    clear c8
    obtain ⟨y405,hy405⟩:∃ y_:List (S30),y_=(t394++[(⟨0,y402⟩:S30)]):=⟨_,rfl⟩
    replace H:(some (y405,t401))=some (r1,r2):=by first|(rw [hy405];exact H)|exact H
    have Ny405:=Aside0.mk hy405
    clear hy405
    simp only [Option.some.injEq,Prod.mk.injEq] at H
    obtain ⟨rfl,rfl⟩:=H
    go_enter Tryd.func51,Tryd.ntmps51
    go_wp2_with (first|(go_at_call 88;(with_reducible refine (spec_l20Binds.calls k g s0_0 s0_1 t394 t397 w0 _ ?side1 ?side2 A3.out).mono ?_);(case side1=>exact qz1);(case side2=>exact qz3);rintro e w9 ⟨v395,rfl,ho0,hi,hb,hk⟩;have n0_:=Aside0.mk (Kd.S_lower ho0 (keep_size (w:=w) (g:=g) (row:=none) qz2));have n1_:=Aside0.mk (KeepBut.trans qz2 hk (.inl rfl));have n2_:=Aside0.mk (hb);have n3_:=Aside0.mk (hi);clear HK HB HI0;have HO396:=n0_;have HK:=n1_;have HB:=n2_;have HI0:=n3_;clear n0_ n1_ n2_ n3_;(try clear hb);(try clear hb2);(try clear hk);(try clear hi);(try clear ho0))|(go_at_call 89;(with_reducible refine (spec_l20Rd_odd.calls k g s0_0 t397 a1 true t399 w0 _ ?side1 ?side2 A4.out).mono ?_);(case side1=>exact qz1);(case side2=>exact qz3);rintro e w10 ⟨rfl,hi,hb,hk⟩;have n0_:=Aside0.mk (Kd.S_mono (Kd.S_keep (IsS102.apartS (show IsS102 w0 _ g s0_0 t397 from qz1) qz22 (by decide)) hk (fun _ h=>h.2)) (fun _ h=>h.1));have n1_:=Aside0.mk (KeepBut.trans qz2 hk (.inl rfl));have n2_:=Aside0.mk (hb);have n3_:=Aside0.mk (hi);clear HO396 HK HB HI0;have HO396:=n0_;have HK:=n1_;have HB:=n2_;have HI0:=n3_;clear n0_ n1_ n2_ n3_;(try clear hb);(try clear hb2);(try clear hk);(try clear hi))|(go_at_call 52;(with_reducible refine (spec_l20Rd_pick.calls k g s0_0 t399 4 t400 t401 w0 _ ?side1 ?side2 A6.out).mono ?_);(case side1=>exact qz1);(case side2=>exact qz3);rintro e w11 ⟨rfl,hi,hb,hk⟩;have n0_:=Aside0.mk (Kd.S_mono (Kd.S_keep (IsS102.apartS (show IsS102 w0 _ g s0_0 t399 from qz1) qz22 (by decide)) hk (fun _ h=>h.2)) (fun _ h=>h.1));have n1_:=Aside0.mk (KeepBut.trans qz2 hk (.inl rfl));have n2_:=Aside0.mk (hb);have n3_:=Aside0.mk (hi);clear HO396 HK HB HI0;have HO396:=n0_;have HK:=n1_;have HB:=n2_;have HI0:=n3_;clear n0_ n1_ n2_ n3_;(try clear hb);(try clear hb2);(try clear hk);(try clear hi))|((with_reducible refine gate_dst (N:=17) rfl ?_);refine Kd.R_lit k46 _ 46 ?hg (N:=17) ?hd (xs:=([(⟨1,0,(⟨#[]⟩:ByteArray)⟩:S46)]:List (S46))) (inner:=[.int .i64 1,.int .i64 0,.string (⟨#[]⟩:ByteArray)]) (ok:=fun _=>True) (okp:=fun _=>True) ?hr ?hp (fun _ hk=>hk) trivial (Below.refl _ _) (Nat.le_refl _) (by simp) ?_;(case hd=>rfl);(case hg=>rfl);(case hr=>first|(go_simp;done)|(go_simp;rfl));(case hp=>exact (Reps.c3 (show Kd.M k46 _ _ _ (⟨1,0,(⟨#[]⟩:ByteArray)⟩:S46) [.int .i64 1,.int .i64 0,.string (⟨#[]⟩:ByteArray)] from (k46_mkM _ _ _ (⟨1,0,(⟨#[]⟩:ByteArray)⟩:S46) )) (Reps.none _ _)));intro v403 w12 ho13 hb hg_ hnew_;clear hg_ hnew_;(first|rw [← Ny402.out] at ho13|(simp only [Int.reduceToNat] at ho13;rw [← Ny402.out] at ho13));have n0_:=Aside0.mk (Kd.S_elder' qz22 (Kd.R_base ho13) hb);have n1_:=Aside0.mk (Kd.R_lower ho13 (keep_size (w:=w) (g:=g) (row:=none) qz2));have n2_:=Aside0.mk (IsS102.below qz1 hb);have n3_:=Aside0.mk (KeepBut.trans qz2 (KeepBut.of_below hb g none) (.inl rfl));have n4_:=Aside0.mk (below_step qz3 hb);clear HO396 HI0 HK HB;have HO396:=n0_;have HO404:=n1_;have HI0:=n2_;have HK:=n3_;have HB:=n4_;clear n0_ n1_ n2_ n3_ n4_ hb ho13;obtain ⟨Ao14,co14,eo14⟩:=Kd.R_slice HO404.out;subst eo14)|((with_reducible refine gate_builtin (b:=.append) (xs:=#[.tmp 15,.tmp 19]) rfl ?_);at_builtin;refine Kd.S_append k30 w.heap.size rfl (.tmp 15) (.tmp 19) 23 30 (.agg #[(.int .i64 0),(.slice none 0 0)]) 32 rfl Tryd.underlying23 info30 rfl (by decide) (by omega) v395 t394 (⟨0,y402⟩:S30) [.int .i64 0,.slice Ao14 y402.length co14] (fun _=>True) (fun k_=>some k_=(.slice Ao14 y402.length co14:Value).ownBlock) rfl rfl ?aP (fun k_ hk_=>((Kd.R_mono (ok':=fun k_=>((fun _=>True)) k_∧some k_≠(v395:Value).ownBlock) (Kd.R_apart' (HO404.out) (Kd.S_typed HO396.out) (by decide)) (fun k_ hk=>⟨trivial,hk.2⟩))).1 k_ hk_.symm) ?aF ?aO (Below.refl _ _) ?aS ?aL ?_;(case aP=>exact k30_mkM _ _ _ (⟨0,y402⟩:S30) (Kd.R_mono (Kd.R_tight rfl (Kd.R_mono (ok':=fun k_=>((fun _=>True)) k_∧some k_≠(v395:Value).ownBlock) (Kd.R_apart' (HO404.out) (Kd.S_typed HO396.out) (by decide)) (fun k_ hk=>⟨trivial,hk.2⟩))) (fun _ h_=>h_)));(case aF=>exact (fun _ _=>trivial));(case aO=>exact qz57);(case aS=>exact (keep_size (w:=w) (g:=g) (row:=none) qz2));(case aL=>have:=LMc8.out;omega);intro v406 w15 ho hb hg hat;rw [← Ny405.out] at ho;have n0_:=Aside0.mk (IsS102.grown qz1 hg (IsS102.own_neS HI0.out HO396.out (by decide)));have n1_:=Aside0.mk (below_weaken qz3 HL.out hb);have n2_:=Aside0.mk (KeepBut.trans qz2 (KeepBut.of_grown hg g) (Kd.S_base2 HO396.out));have n3_:=Aside0.mk (ho);clear HI0 HB HK HO396 HO404;have HI0:=n0_;have HB:=n1_;have HK:=n2_;have HO407:=n3_;clear n0_ n1_ n2_ n3_ ho hb hg hat))
    go_ret
    exact ⟨_,qz7,by (with_reducible repeat (first|apply Kd.S_alloc|apply Kd.S_drewN|apply Kd.S_drew));exact HO407.out,qz1,qz3,qz2⟩
   ·rw [if_neg c8] at H
    exact absurd H (by simp)
  ·rw [if_neg c7] at H
   have c7b0:(t400 == 0)=false:=beq_eq_false_iff_ne.mpr c7
   have c7b1:(t400 != 0)=true:=bne_iff_ne.mpr c7
   by_cases c16:t400=1
   ·rw [if_pos c16] at H
    have c16b0:(t400 == 1)=true:=beq_iff_eq.mpr c16
    have c16b1:(t400 != 1)=false:=bne_eq_false_iff_eq.mpr c16
    clear c16
    obtain ⟨y408,hy408⟩:∃ y_:List Int,y_=(([(-1),100000]:List Int)):=⟨_,rfl⟩
    replace H:((spec_l20Rd_pick.f k s0_0 t401 2).bind fun bt411=>(if 0≤bt411.1 then (if bt411.1<(y408.length:Int) then (if t394.length<4398046511104 then (some ((t394++[(⟨rd y408 bt411.1,(([(⟨2,0,(⟨#[]⟩:ByteArray)⟩:S46)]:List (S46)))⟩:S30)]),bt411.2)) else (none)) else (none)) else (none)))=some (r1,r2):=by first|(rw [hy408];exact H)|exact H
    have Ny408:=Aside0.mk hy408
    clear hy408
    replace H:=Option.bind_eq_some_iff.mp H
    obtain ⟨⟨t411,t412⟩,A170,H⟩:=H
    try dsimp only at H
    have A17:=Aside0.mk A170
    clear A170
    by_cases c18:0≤t411
    ·rw [if_pos c18] at H
     have c18b0:decide (0≤t411)=true:=decide_eq_true c18
     clear c18
     by_cases c19:t411<(y408.length:Int)
     ·rw [if_pos c19] at H
      have c19b0:decide (t411<(y408.length:Int))=true:=decide_eq_true c19
      clear c19
      obtain ⟨y414,hy414⟩:∃ y_:List (S46),y_=(([(⟨2,0,(⟨#[]⟩:ByteArray)⟩:S46)]:List (S46))):=⟨_,rfl⟩
      replace H:(if t394.length<4398046511104 then (some ((t394++[(⟨rd y408 t411,y414⟩:S30)]),t412)) else (none))=some (r1,r2):=by first|(rw [hy414];exact H)|exact H
      have Ny414:=Aside0.mk hy414
      clear hy414
      by_cases c20:t394.length<4398046511104
      ·rw [if_pos c20] at H
       have LMc20:=Aside0.mk c20
       clear c20
       obtain ⟨y417,hy417⟩:∃ y_:List (S30),y_=(t394++[(⟨rd y408 t411,y414⟩:S30)]):=⟨_,rfl⟩
       replace H:(some (y417,t412))=some (r1,r2):=by first|(rw [hy417];exact H)|exact H
       have Ny417:=Aside0.mk hy417
       clear hy417
       simp only [Option.some.injEq,Prod.mk.injEq] at H
       obtain ⟨rfl,rfl⟩:=H
       go_enter Tryd.func51,Tryd.ntmps51
       go_wp2_with (first|(go_at_call 88;(with_reducible refine (spec_l20Binds.calls k g s0_0 s0_1 t394 t397 w0 _ ?side1 ?side2 A3.out).mono ?_);(case side1=>exact qz1);(case side2=>exact qz3);rintro e w21 ⟨v395,rfl,ho0,hi,hb,hk⟩;have n0_:=Aside0.mk (Kd.S_lower ho0 (keep_size (w:=w) (g:=g) (row:=none) qz2));have n1_:=Aside0.mk (KeepBut.trans qz2 hk (.inl rfl));have n2_:=Aside0.mk (hb);have n3_:=Aside0.mk (hi);clear HK HB HI0;have HO396:=n0_;have HK:=n1_;have HB:=n2_;have HI0:=n3_;clear n0_ n1_ n2_ n3_;(try clear hb);(try clear hb2);(try clear hk);(try clear hi);(try clear ho0))|(go_at_call 89;(with_reducible refine (spec_l20Rd_odd.calls k g s0_0 t397 a1 true t399 w0 _ ?side1 ?side2 A4.out).mono ?_);(case side1=>exact qz1);(case side2=>exact qz3);rintro e w22 ⟨rfl,hi,hb,hk⟩;have n0_:=Aside0.mk (Kd.S_mono (Kd.S_keep (IsS102.apartS (show IsS102 w0 _ g s0_0 t397 from qz1) qz22 (by decide)) hk (fun _ h=>h.2)) (fun _ h=>h.1));have n1_:=Aside0.mk (KeepBut.trans qz2 hk (.inl rfl));have n2_:=Aside0.mk (hb);have n3_:=Aside0.mk (hi);clear HO396 HK HB HI0;have HO396:=n0_;have HK:=n1_;have HB:=n2_;have HI0:=n3_;clear n0_ n1_ n2_ n3_;(try clear hb);(try clear hb2);(try clear hk);(try clear hi))|(go_at_call 52;(with_reducible refine (spec_l20Rd_pick.calls k g s0_0 t399 4 t400 t401 w0 _ ?side1 ?side2 A6.out).mono ?_);(case side1=>exact qz1);(case side2=>exact qz3);rintro e w23 ⟨rfl,hi,hb,hk⟩;have n0_:=Aside0.mk (Kd.S_mono (Kd.S_keep (IsS102.apartS (show IsS102 w0 _ g s0_0 t399 from qz1) qz22 (by decide)) hk (fun _ h=>h.2)) (fun _ h=>h.1));have n1_:=Aside0.mk (KeepBut.trans qz2 hk (.inl rfl));have n2_:=Aside0.mk (hb);have n3_:=Aside0.mk (hi);clear HO396 HK HB HI0;have HO396:=n0_;have HK:=n1_;have HB:=n2_;have HI0:=n3_;clear n0_ n1_ n2_ n3_;(try clear hb);(try clear hb2);(try clear hk);(try clear hi))|((with_reducible refine gate_dst (N:=24) rfl ?_);refine Kd.R_lit (Kd.int .i64) _ 3 ?hg (N:=24) ?hd (xs:=([(-1),100000]:List Int)) (inner:=[.int .i64 (-1),.int .i64 100000]) (ok:=fun _=>True) (okp:=fun _=>True) ?hr ?hp (fun _ hk=>hk) trivial (Below.refl _ _) (Nat.le_refl _) (by simp) ?_;(case hd=>rfl);(case hg=>rfl);(case hr=>first|(go_simp;done)|(go_simp;rfl));(case hp=>exact (Reps.one (show Kd.M (Kd.int .i64) _ _ _ (-1) [.int .i64 (-1)] from rfl) (Reps.one (show Kd.M (Kd.int .i64) _ _ _ 100000 [.int .i64 100000] from rfl) (Reps.none _ _))));intro v409 w24 ho25 hb hg_ hnew_;clear hg_ hnew_;(first|rw [← Ny408.out] at ho25|(simp only [Int.reduceToNat] at ho25;rw [← Ny408.out] at ho25));have n0_:=Aside0.mk (Kd.S_below qz22 hb);have n1_:=Aside0.mk (Kd.R_lower ho25 (keep_size (w:=w) (g:=g) (row:=none) qz2));have n2_:=Aside0.mk (IsS102.below qz1 hb);have n3_:=Aside0.mk (KeepBut.trans qz2 (KeepBut.of_below hb g none) (.inl rfl));have n4_:=Aside0.mk (below_step qz3 hb);clear HO396 HI0 HK HB;have HO396:=n0_;have HO410:=n1_;have HI0:=n2_;have HK:=n3_;have HB:=n4_;clear n0_ n1_ n2_ n3_ n4_ hb ho25)|(go_at_call 52;(with_reducible refine (spec_l20Rd_pick.calls k g s0_0 t401 2 t411 t412 w0 _ ?side1 ?side2 A17.out).mono ?_);(case side1=>exact qz1);(case side2=>exact qz3);rintro e w26 ⟨rfl,hi,hb,hk⟩;have n0_:=Aside0.mk (Kd.S_mono (Kd.S_keep (IsS102.apartS (show IsS102 w0 _ g s0_0 t401 from qz1) qz22 (by decide)) hk (fun _ h=>h.2)) (fun _ h=>h.1));have n1_:=Aside0.mk (Kd.R_mono (Kd.R_keep (IsS102.apart (show IsS102 w0 _ g s0_0 t401 from qz1) qz69 (by decide)) hk (fun _ h=>h.2)) (fun _ h=>h.1));have n2_:=Aside0.mk (KeepBut.trans qz2 hk (.inl rfl));have n3_:=Aside0.mk (hb);have n4_:=Aside0.mk (hi);clear HO396 HO410 HK HB HI0;have HO396:=n0_;have HO410:=n1_;have HK:=n2_;have HB:=n3_;have HI0:=n4_;clear n0_ n1_ n2_ n3_ n4_;(try clear hb);(try clear hb2);(try clear hk);(try clear hi);obtain ⟨Ao27,co27,eo27⟩:=Kd.R_slice HO410.out;subst eo27;have p413:0≤(t411:Int):=of_decide_eq_true qz6;have q413:t411<(y408.length:Int):=of_decide_eq_true qz6;obtain ⟨ad413,e413,hx413_0⟩:=Kd.at_int (Kd.R_reads' HO410.out).2.2 t411 p413 q413;cases e413;replace p413:=eq_true p413;replace q413:=eq_true q413)|((with_reducible refine gate_dst (N:=30) rfl ?_);refine Kd.R_lit k46 _ 46 ?hg (N:=30) ?hd (xs:=([(⟨2,0,(⟨#[]⟩:ByteArray)⟩:S46)]:List (S46))) (inner:=[.int .i64 2,.int .i64 0,.string (⟨#[]⟩:ByteArray)]) (ok:=fun _=>True) (okp:=fun _=>True) ?hr ?hp (fun _ hk=>hk) trivial (Below.refl _ _) (Nat.le_refl _) (by simp) ?_;(case hd=>rfl);(case hg=>rfl);(case hr=>first|(go_simp;done)|(go_simp;rfl));(case hp=>exact (Reps.c3 (show Kd.M k46 _ _ _ (⟨2,0,(⟨#[]⟩:ByteArray)⟩:S46) [.int .i64 2,.int .i64 0,.string (⟨#[]⟩:ByteArray)] from (k46_mkM _ _ _ (⟨2,0,(⟨#[]⟩:ByteArray)⟩:S46) )) (Reps.none _ _)));intro v415 w28 ho29 hb hg_ hnew_;clear hg_ hnew_;(first|rw [← Ny414.out] at ho29|(simp only [Int.reduceToNat] at ho29;rw [← Ny414.out] at ho29));have n0_:=Aside0.mk (Kd.S_elder' qz22 (Kd.R_base ho29) hb);have n1_:=Aside0.mk (Kd.R_below qz69 hb);have n2_:=Aside0.mk (Kd.R_lower ho29 (keep_size (w:=w) (g:=g) (row:=none) qz2));have n3_:=Aside0.mk (IsS102.below qz1 hb);have n4_:=Aside0.mk (KeepBut.trans qz2 (KeepBut.of_below hb g none) (.inl rfl));have n5_:=Aside0.mk (below_step qz3 hb);clear HO396 HO410 HI0 HK HB;have HO396:=n0_;have HO410:=n1_;have HO416:=n2_;have HI0:=n3_;have HK:=n4_;have HB:=n5_;clear n0_ n1_ n2_ n3_ n4_ n5_ hb ho29;obtain ⟨Ao30,co30,eo30⟩:=Kd.R_slice HO416.out;subst eo30)|((with_reducible refine gate_builtin (b:=.append) (xs:=#[.tmp 23,.tmp 32]) rfl ?_);at_builtin;refine Kd.S_append k30 w.heap.size rfl (.tmp 23) (.tmp 32) 23 30 (.agg #[(.int .i64 0),(.slice none 0 0)]) 32 rfl Tryd.underlying23 info30 rfl (by decide) (by omega) v395 t394 (⟨rd y408 t411,y414⟩:S30) [.int .i64 (rd y408 t411),.slice Ao30 y414.length co30] (fun _=>True) (fun k_=>some k_=(.slice Ao30 y414.length co30:Value).ownBlock) rfl rfl ?aP (fun k_ hk_=>((Kd.R_mono (ok':=fun k_=>((fun _=>True)) k_∧some k_≠(v395:Value).ownBlock) (Kd.R_apart' (HO416.out) (Kd.S_typed HO396.out) (by decide)) (fun k_ hk=>⟨trivial,hk.2⟩))).1 k_ hk_.symm) ?aF ?aO (Below.refl _ _) ?aS ?aL ?_;(case aP=>exact k30_mkM _ _ _ (⟨rd y408 t411,y414⟩:S30) (Kd.R_mono (Kd.R_tight rfl (Kd.R_mono (ok':=fun k_=>((fun _=>True)) k_∧some k_≠(v395:Value).ownBlock) (Kd.R_apart' (HO416.out) (Kd.S_typed HO396.out) (by decide)) (fun k_ hk=>⟨trivial,hk.2⟩))) (fun _ h_=>h_)));(case aF=>exact (fun _ _=>trivial));(case aO=>exact qz57);(case aS=>exact (keep_size (w:=w) (g:=g) (row:=none) qz2));(case aL=>have:=LMc20.out;omega);intro v418 w31 ho hb hg hat;rw [← Ny417.out] at ho;have n0_:=Aside0.mk (IsS102.grown qz1 hg (IsS102.own_neS HI0.out HO396.out (by decide)));have n1_:=Aside0.mk (Kd.R_over' qz69 (Kd.S_typed qz22) (by decide) hg);have n2_:=Aside0.mk (below_weaken qz3 HL.out hb);have n3_:=Aside0.mk (KeepBut.trans qz2 (KeepBut.of_grown hg g) (Kd.S_base2 HO396.out));have n4_:=Aside0.mk (ho);clear HI0 HO410 HB HK HO396 HO416;have HI0:=n0_;have HO410:=n1_;have HB:=n2_;have HK:=n3_;have HO419:=n4_;clear n0_ n1_ n2_ n3_ n4_ ho hb hg hat))
       go_ret
       exact ⟨_,qz7,by (with_reducible repeat (first|apply Kd.S_alloc|apply Kd.S_drewN|apply Kd.S_drew));exact HO419.out,qz1,qz3,qz2⟩
      ·rw [if_neg c20] at H
       exact absurd H (by simp)
     ·rw [if_neg c19] at H
      exact absurd H (by simp)
    ·rw [if_neg c18] at H
     exact absurd H (by simp)
   ·rw [if_neg c16] at H
    have c16b0:(t400 == 1)=false:=beq_eq_false_iff_ne.mpr c16
    have c16b1:(t400 != 1)=true:=bne_iff_ne.mpr c16
    by_cases c32:t400=2
    ·rw [if_pos c32] at H
     have c32b0:(t400 == 2)=true:=beq_iff_eq.mpr c32
     have c32b1:(t400 != 2)=false:=bne_eq_false_iff_eq.mpr c32
     clear c32
     replace H:=Option.bind_eq_some_iff.mp H
     obtain ⟨⟨t420,t423⟩,A330,H⟩:=H
     try dsimp only at H
     have A33:=Aside0.mk A330
     clear A330
     replace H:=Option.bind_eq_some_iff.mp H
     obtain ⟨⟨t424,t427⟩,A340,H⟩:=H
     try dsimp only at H
     have A34:=Aside0.mk A340
     clear A340
     by_cases c35:t394.length<4398046511104
     ·rw [if_pos c35] at H
      have LMc35:=Aside0.mk c35
      clear c35
      obtain ⟨y428,hy428⟩:∃ y_:List (S30),y_=(t394++[(⟨9,t424⟩:S30)]):=⟨_,rfl⟩
      replace H:(some (y428,t427))=some (r1,r2):=by first|(rw [hy428];exact H)|exact H
      have Ny428:=Aside0.mk hy428
      clear hy428
      simp only [Option.some.injEq,Prod.mk.injEq] at H
      obtain ⟨rfl,rfl⟩:=H
      go_enter Tryd.func51,Tryd.ntmps51
      go_wp2_with (first|(go_at_call 88;(with_reducible refine (spec_l20Binds.calls k g s0_0 s0_1 t394 t397 w0 _ ?side1 ?side2 A3.out).mono ?_);(case side1=>exact qz1);(case side2=>exact qz3);rintro e w36 ⟨v395,rfl,ho0,hi,hb,hk⟩;have n0_:=Aside0.mk (Kd.S_lower ho0 (keep_size (w:=w) (g:=g) (row:=none) qz2));have n1_:=Aside0.mk (KeepBut.trans qz2 hk (.inl rfl));have n2_:=Aside0.mk (hb);have n3_:=Aside0.mk (hi);clear HK HB HI0;have HO396:=n0_;have HK:=n1_;have HB:=n2_;have HI0:=n3_;clear n0_ n1_ n2_ n3_;(try clear hb);(try clear hb2);(try clear hk);(try clear hi);(try clear ho0))|(go_at_call 89;(with_reducible refine (spec_l20Rd_odd.calls k g s0_0 t397 a1 true t399 w0 _ ?side1 ?side2 A4.out).mono ?_);(case side1=>exact qz1);(case side2=>exact qz3);rintro e w37 ⟨rfl,hi,hb,hk⟩;have n0_:=Aside0.mk (Kd.S_mono (Kd.S_keep (IsS102.apartS (show IsS102 w0 _ g s0_0 t397 from qz1) qz22 (by decide)) hk (fun _ h=>h.2)) (fun _ h=>h.1));have n1_:=Aside0.mk (KeepBut.trans qz2 hk (.inl rfl));have n2_:=Aside0.mk (hb);have n3_:=Aside0.mk (hi);clear HO396 HK HB HI0;have HO396:=n0_;have HK:=n1_;have HB:=n2_;have HI0:=n3_;clear n0_ n1_ n2_ n3_;(try clear hb);(try clear hb2);(try clear hk);(try clear hi))|(go_at_call 52;(with_reducible refine (spec_l20Rd_pick.calls k g s0_0 t399 4 t400 t401 w0 _ ?side1 ?side2 A6.out).mono ?_);(case side1=>exact qz1);(case side2=>exact qz3);rintro e w38 ⟨rfl,hi,hb,hk⟩;have n0_:=Aside0.mk (Kd.S_mono (Kd.S_keep (IsS102.apartS (show IsS102 w0 _ g s0_0 t399 from qz1) qz22 (by decide)) hk (fun _ h=>h.2)) (fun _ h=>h.1));have n1_:=Aside0.mk (KeepBut.trans qz2 hk (.inl rfl));have n2_:=Aside0.mk (hb);have n3_:=Aside0.mk (hi);clear HO396 HK HB HI0;have HO396:=n0_;have HK:=n1_;have HB:=n2_;have HI0:=n3_;clear n0_ n1_ n2_ n3_;(try clear hb);(try clear hb2);(try clear hk);(try clear hi))|(go_at_call 91;(with_reducible refine (spec_l20Term.calls k g s0_0 t401 8 3 t420 t423 w0 _ ?side1 ?side2 A33.out).mono ?_);(case side1=>exact qz1);(case side2=>exact qz3);rintro e w39 ⟨v421,rfl,ho0,hi,hb,hk⟩;have n0_:=Aside0.mk (Kd.S_mono (Kd.S_told (Kd.S_oldK (IsS102.apartS (show IsS102 w0 _ g s0_0 t401 from qz1) qz22 (by decide)) hk) (Kd.R_base ho0)) (fun _ h_=>h_.1));have n1_:=Aside0.mk (Kd.R_lower ho0 (keep_size (w:=w) (g:=g) (row:=none) qz2));have n2_:=Aside0.mk (KeepBut.trans qz2 hk (.inl rfl));have n3_:=Aside0.mk (hb);have n4_:=Aside0.mk (hi);clear HO396 HK HB HI0;have HO396:=n0_;have HO422:=n1_;have HK:=n2_;have HB:=n3_;have HI0:=n4_;clear n0_ n1_ n2_ n3_ n4_;(try clear hb);(try clear hb2);(try clear hk);(try clear hi);(try clear ho0);obtain ⟨Ao40,co40,eo40⟩:=Kd.R_slice HO422.out;subst eo40)|(go_at_call 90;(with_reducible refine (spec_l20Spoil.calls k g s0_0 t423 _ _ t420 t424 t427 w0 _ ?side1 ?side2 ?side3 ?side4 A34.out).mono ?_);(case side1=>exact qz1);(case side2=>exact qz3);(case side3=>exact Kd.C_foot_own (IsS102.apart (show IsS102 w0 _ g s0_0 t423 from qz1) qz51 (by decide)) (fun _ h_=>h_.2));(case side4=>exact (Kd.R_reads' HO422.out).2.1);rintro e w41 ⟨v425,rfl,ho0,hi,hb,hk⟩;have n0_:=Aside0.mk (Kd.S_mono (Kd.S_told (Kd.S_oldK (IsS102.apartS (show IsS102 w0 _ g s0_0 t423 from qz1) qz22 (by decide)) hk) (Kd.R_base ho0)) (fun _ h_=>h_.1));have n1_:=Aside0.mk (Kd.R_mono (Kd.R_told (Kd.R_oldK (IsS102.apart (show IsS102 w0 _ g s0_0 t423 from qz1) qz51 (by decide)) hk) (Kd.R_base ho0)) (fun _ h_=>h_.1));have n2_:=Aside0.mk (Kd.R_lower (Kd.R_new' ho0 (Kd.R_lt qz51)) (keep_size (w:=w) (g:=g) (row:=none) qz2));have n3_:=Aside0.mk (KeepBut.trans qz2 hk (.inl rfl));have n4_:=Aside0.mk (hb);have n5_:=Aside0.mk (hi);clear HO396 HO422 HK HB HI0;have HO396:=n0_;have HO422:=n1_;have HO426:=n2_;have HK:=n3_;have HB:=n4_;have HI0:=n5_;clear n0_ n1_ n2_ n3_ n4_ n5_;(try clear hb);(try clear hb2);(try clear hk);(try clear hi);(try clear ho0);obtain ⟨Ao42,co42,eo42⟩:=Kd.R_slice HO426.out;subst eo42)|((with_reducible refine gate_builtin (b:=.append) (xs:=#[.tmp 36,.tmp 42]) rfl ?_);at_builtin;refine Kd.S_append k30 w.heap.size rfl (.tmp 36) (.tmp 42) 23 30 (.agg #[(.int .i64 0),(.slice none 0 0)]) 32 rfl Tryd.underlying23 info30 rfl (by decide) (by omega) v395 t394 (⟨9,t424⟩:S30) [.int .i64 9,.slice Ao42 t424.length co42] (fun k_=>some k_≠(.slice Ao40 t420.length co40:Value).ownBlock) (fun k_=>some k_=(.slice Ao42 t424.length co42:Value).ownBlock) rfl rfl ?aP (fun k_ hk_=>((Kd.R_mono (ok':=fun k_=>((fun k_=>some k_≠(.slice Ao40 t420.length co40:Value).ownBlock)) k_∧some k_≠(v395:Value).ownBlock) (Kd.R_apart' (HO426.out) (Kd.S_typed HO396.out) (by decide)) (fun k_ hk=>⟨hk.1.2,hk.2⟩))).1 k_ hk_.symm) ?aF ?aO (Below.refl _ _) ?aS ?aL ?_;(case aP=>exact k30_mkM _ _ _ (⟨9,t424⟩:S30) (Kd.R_mono (Kd.R_tight rfl (Kd.R_mono (ok':=fun k_=>((fun k_=>some k_≠(.slice Ao40 t420.length co40:Value).ownBlock)) k_∧some k_≠(v395:Value).ownBlock) (Kd.R_apart' (HO426.out) (Kd.S_typed HO396.out) (by decide)) (fun k_ hk=>⟨hk.1.2,hk.2⟩))) (fun _ h_=>h_)));(case aF=>exact (fun k_ hk=>Kd.fresh' (Kd.R_lt qz51) k_ hk));(case aO=>(with_reducible repeat (first|apply Kd.S_alloc|apply Kd.S_drewN|apply Kd.S_drew));exact Kd.S_mono HO396.out (fun k_ hk=>⟨hk.1.2,fun e_=>hk.2 e_⟩));(case aS=>exact (keep_size (w:=w) (g:=g) (row:=none) qz2));(case aL=>have:=LMc35.out;omega);intro v429 w43 ho hb hg hat;rw [← Ny428.out] at ho;have n0_:=Aside0.mk (IsS102.grown qz1 hg (IsS102.own_neS HI0.out HO396.out (by decide)));have n1_:=Aside0.mk (Kd.R_over' qz51 (Kd.S_typed qz22) (by decide) hg);have n2_:=Aside0.mk (below_weaken qz3 HL.out hb);have n3_:=Aside0.mk (KeepBut.trans qz2 (KeepBut.of_grown hg g) (Kd.S_base2 HO396.out));have n4_:=Aside0.mk (ho);clear HI0 HO422 HB HK HO396 HO426;have HI0:=n0_;have HO422:=n1_;have HB:=n2_;have HK:=n3_;have HO430:=n4_;clear n0_ n1_ n2_ n3_ n4_ ho hb hg hat))
      go_ret
      exact ⟨_,qz7,by (with_reducible repeat (first|apply Kd.S_alloc|apply Kd.S_drewN|apply Kd.S_drew));exact Kd.S_mono HO430.out (fun _ hk=>trivial),qz1,qz3,qz2⟩
     ·rw [if_neg c35] at H
      exact absurd H (by simp)
    ·rw [if_neg c32] at H
     have c32b0:(t400 == 2)=false:=beq_eq_false_iff_ne.mpr c32
     have c32b1:(t400 != 2)=true:=bne_iff_ne.mpr c32
     obtain ⟨y431,hy431⟩:∃ y_:List (S46),y_=(([(⟨1,8,(⟨#[]⟩:ByteArray)⟩:S46)]:List (S46))):=⟨_,rfl⟩
     replace H:(if t394.length<4398046511104 then ((some (t394++[(⟨7,y431⟩:S30)]:List (S30))).bind fun y434=>(if y434.length<4398046511104 then (some ((y434++[(⟨8,(([(⟨3,1,(⟨#[102]⟩:ByteArray)⟩:S46),(⟨1,7,(⟨#[]⟩:ByteArray)⟩:S46)]:List (S46)))⟩:S30)]),t401)) else (none))) else (none))=some (r1,r2):=by first|(rw [hy431];exact H)|exact H
     have Ny431:=Aside0.mk hy431
     clear hy431
     by_cases c44:t394.length<4398046511104
     ·rw [if_pos c44] at H
      have LMc44:=Aside0.mk c44
      clear c44
      obtain ⟨y434,hy434⟩:∃ y_:List (S30),y_=(t394++[(⟨7,y431⟩:S30)]):=⟨_,rfl⟩
      replace H:(if y434.length<4398046511104 then (some ((y434++[(⟨8,(([(⟨3,1,(⟨#[102]⟩:ByteArray)⟩:S46),(⟨1,7,(⟨#[]⟩:ByteArray)⟩:S46)]:List (S46)))⟩:S30)]),t401)) else (none))=some (r1,r2):=by first|(rw [hy434];exact H)|exact H
      have Ny434:=Aside0.mk hy434
      clear hy434
      obtain ⟨y437,hy437⟩:∃ y_:List (S46),y_=(([(⟨3,1,(⟨#[102]⟩:ByteArray)⟩:S46),(⟨1,7,(⟨#[]⟩:ByteArray)⟩:S46)]:List (S46))):=⟨_,rfl⟩
      replace H:(if y434.length<4398046511104 then (some ((y434++[(⟨8,y437⟩:S30)]),t401)) else (none))=some (r1,r2):=by first|(rw [hy437];exact H)|exact H
      have Ny437:=Aside0.mk hy437
      clear hy437
      by_cases c45:y434.length<4398046511104
      ·rw [if_pos c45] at H
       have LMc45:=Aside0.mk c45
       clear c45
       obtain ⟨y440,hy440⟩:∃ y_:List (S30),y_=(y434++[(⟨8,y437⟩:S30)]):=⟨_,rfl⟩
       replace H:(some (y440,t401))=some (r1,r2):=by first|(rw [hy440];exact H)|exact H
       have Ny440:=Aside0.mk hy440
       clear hy440
       simp only [Option.some.injEq,Prod.mk.injEq] at H
       obtain ⟨rfl,rfl⟩:=H
       go_enter Tryd.func51,Tryd.ntmps51
       go_wp2_with (first|(go_at_call 88;(with_reducible refine (spec_l20Binds.calls k g s0_0 s0_1 t394 t397 w0 _ ?side1 ?side2 A3.out).mono ?_);(case side1=>exact qz1);(case side2=>exact qz3);rintro e w46 ⟨v395,rfl,ho0,hi,hb,hk⟩;have n0_:=Aside0.mk (Kd.S_lower ho0 (keep_size (w:=w) (g:=g) (row:=none) qz2));have n1_:=Aside0.mk (KeepBut.trans qz2 hk (.inl rfl));have n2_:=Aside0.mk (hb);have n3_:=Aside0.mk (hi);clear HK HB HI0;have HO396:=n0_;have HK:=n1_;have HB:=n2_;have HI0:=n3_;clear n0_ n1_ n2_ n3_;(try clear hb);(try clear hb2);(try clear hk);(try clear hi);(try clear ho0))|(go_at_call 89;(with_reducible refine (spec_l20Rd_odd.calls k g s0_0 t397 a1 true t399 w0 _ ?side1 ?side2 A4.out).mono ?_);(case side1=>exact qz1);(case side2=>exact qz3);rintro e w47 ⟨rfl,hi,hb,hk⟩;have n0_:=Aside0.mk (Kd.S_mono (Kd.S_keep (IsS102.apartS (show IsS102 w0 _ g s0_0 t397 from qz1) qz22 (by decide)) hk (fun _ h=>h.2)) (fun _ h=>h.1));have n1_:=Aside0.mk (KeepBut.trans qz2 hk (.inl rfl));have n2_:=Aside0.mk (hb);have n3_:=Aside0.mk (hi);clear HO396 HK HB HI0;have HO396:=n0_;have HK:=n1_;have HB:=n2_;have HI0:=n3_;clear n0_ n1_ n2_ n3_;(try clear hb);(try clear hb2);(try clear hk);(try clear hi))|(go_at_call 52;(with_reducible refine (spec_l20Rd_pick.calls k g s0_0 t399 4 t400 t401 w0 _ ?side1 ?side2 A6.out).mono ?_);(case side1=>exact qz1);(case side2=>exact qz3);rintro e w48 ⟨rfl,hi,hb,hk⟩;have n0_:=Aside0.mk (Kd.S_mono (Kd.S_keep (IsS102.apartS (show IsS102 w0 _ g s0_0 t399 from qz1) qz22 (by decide)) hk (fun _ h=>h.2)) (fun _ h=>h.1));have n1_:=Aside0.mk (KeepBut.trans qz2 hk (.inl rfl));have n2_:=Aside0.mk (hb);have n3_:=Aside0.mk (hi);clear HO396 HK HB HI0;have HO396:=n0_;have HK:=n1_;have HB:=n2_;have HI0:=n3_;clear n0_ n1_ n2_ n3_;(try clear hb);(try clear hb2);(try clear hk);(try clear hi))|((with_reducible refine gate_dst (N:=46) rfl ?_);refine Kd.R_lit k46 _ 46 ?hg (N:=46) ?hd (xs:=([(⟨1,8,(⟨#[]⟩:ByteArray)⟩:S46)]:List (S46))) (inner:=[.int .i64 1,.int .i64 8,.string (⟨#[]⟩:ByteArray)]) (ok:=fun _=>True) (okp:=fun _=>True) ?hr ?hp (fun _ hk=>hk) trivial (Below.refl _ _) (Nat.le_refl _) (by simp) ?_;(case hd=>rfl);(case hg=>rfl);(case hr=>first|(go_simp;done)|(go_simp;rfl));(case hp=>exact (Reps.c3 (show Kd.M k46 _ _ _ (⟨1,8,(⟨#[]⟩:ByteArray)⟩:S46) [.int .i64 1,.int .i64 8,.string (⟨#[]⟩:ByteArray)] from (k46_mkM _ _ _ (⟨1,8,(⟨#[]⟩:ByteArray)⟩:S46) )) (Reps.none _ _)));intro v432 w49 ho50 hb hg_ hnew_;clear hg_ hnew_;(first|rw [← Ny431.out] at ho50|(simp only [Int.reduceToNat] at ho50;rw [← Ny431.out] at ho50));have n0_:=Aside0.mk (Kd.S_elder' qz22 (Kd.R_base ho50) hb);have n1_:=Aside0.mk (Kd.R_lower ho50 (keep_size (w:=w) (g:=g) (row:=none) qz2));have n2_:=Aside0.mk (IsS102.below qz1 hb);have n3_:=Aside0.mk (KeepBut.trans qz2 (KeepBut.of_below hb g none) (.inl rfl));have n4_:=Aside0.mk (below_step qz3 hb);clear HO396 HI0 HK HB;have HO396:=n0_;have HO433:=n1_;have HI0:=n2_;have HK:=n3_;have HB:=n4_;clear n0_ n1_ n2_ n3_ n4_ hb ho50;obtain ⟨Ao51,co51,eo51⟩:=Kd.R_slice HO433.out;subst eo51)|((with_reducible refine gate_builtin (b:=.append) (xs:=#[.tmp 44,.tmp 48]) rfl ?_);at_builtin;refine Kd.S_append k30 w.heap.size rfl (.tmp 44) (.tmp 48) 23 30 (.agg #[(.int .i64 0),(.slice none 0 0)]) 32 rfl Tryd.underlying23 info30 rfl (by decide) (by omega) v395 t394 (⟨7,y431⟩:S30) [.int .i64 7,.slice Ao51 y431.length co51] (fun _=>True) (fun k_=>some k_=(.slice Ao51 y431.length co51:Value).ownBlock) rfl rfl ?aP (fun k_ hk_=>((Kd.R_mono (ok':=fun k_=>((fun _=>True)) k_∧some k_≠(v395:Value).ownBlock) (Kd.R_apart' (HO433.out) (Kd.S_typed HO396.out) (by decide)) (fun k_ hk=>⟨trivial,hk.2⟩))).1 k_ hk_.symm) ?aF ?aO (Below.refl _ _) ?aS ?aL ?_;(case aP=>exact k30_mkM _ _ _ (⟨7,y431⟩:S30) (Kd.R_mono (Kd.R_tight rfl (Kd.R_mono (ok':=fun k_=>((fun _=>True)) k_∧some k_≠(v395:Value).ownBlock) (Kd.R_apart' (HO433.out) (Kd.S_typed HO396.out) (by decide)) (fun k_ hk=>⟨trivial,hk.2⟩))) (fun _ h_=>h_)));(case aF=>exact (fun _ _=>trivial));(case aO=>exact qz57);(case aS=>exact (keep_size (w:=w) (g:=g) (row:=none) qz2));(case aL=>have:=LMc44.out;omega);intro v435 w52 ho hb hg hat;rw [← Ny434.out] at ho;have n0_:=Aside0.mk (IsS102.grown qz1 hg (IsS102.own_neS HI0.out HO396.out (by decide)));have n1_:=Aside0.mk (below_weaken qz3 HL.out hb);have n2_:=Aside0.mk (KeepBut.trans qz2 (KeepBut.of_grown hg g) (Kd.S_base2 HO396.out));have n3_:=Aside0.mk (ho);clear HI0 HB HK HO396 HO433;have HI0:=n0_;have HB:=n1_;have HK:=n2_;have HO436:=n3_;clear n0_ n1_ n2_ n3_ ho hb hg hat)|((with_reducible refine gate_dst (N:=52) rfl ?_);refine Kd.R_lit k46 _ 46 ?hg (N:=52) ?hd (xs:=([(⟨3,1,(⟨#[102]⟩:ByteArray)⟩:S46),(⟨1,7,(⟨#[]⟩:ByteArray)⟩:S46)]:List (S46))) (inner:=[.int .i64 3,.int .i64 1,.string (⟨#[102]⟩:ByteArray),.int .i64 1,.int .i64 7,.string (⟨#[]⟩:ByteArray)]) (ok:=fun _=>True) (okp:=fun _=>True) ?hr ?hp (fun _ hk=>hk) trivial (Below.refl _ _) (Nat.le_refl _) (by simp) ?_;(case hd=>rfl);(case hg=>rfl);(case hr=>first|(go_simp;done)|(go_simp;rfl));(case hp=>exact (Reps.c3 (show Kd.M k46 _ _ _ (⟨3,1,(⟨#[102]⟩:ByteArray)⟩:S46) [.int .i64 3,.int .i64 1,.string (⟨#[102]⟩:ByteArray)] from (k46_mkM _ _ _ (⟨3,1,(⟨#[102]⟩:ByteArray)⟩:S46) )) (Reps.c3 (show Kd.M k46 _ _ _ (⟨1,7,(⟨#[]⟩:ByteArray)⟩:S46) [.int .i64 1,.int .i64 7,.string (⟨#[]⟩:ByteArray)] from (k46_mkM _ _ _ (⟨1,7,(⟨#[]⟩:ByteArray)⟩:S46) )) (Reps.none _ _))));intro v438 w53 ho54 hb hg_ hnew_;clear hg_ hnew_;(first|rw [← Ny437.out] at ho54|(simp only [Int.reduceToNat] at ho54;rw [← Ny437.out] at ho54));have n0_:=Aside0.mk (Kd.S_elder' (by (with_reducible repeat (first|apply Kd.S_alloc|apply Kd.S_drewN|apply Kd.S_drew));exact HO436.out) (Kd.R_base ho54) hb);have n1_:=Aside0.mk (Kd.R_lower ho54 (keep_size (w:=w) (g:=g) (row:=none) qz2));have n2_:=Aside0.mk (IsS102.below qz1 hb);have n3_:=Aside0.mk (KeepBut.trans qz2 (KeepBut.of_below hb g none) (.inl rfl));have n4_:=Aside0.mk (below_step qz3 hb);clear HO436 HI0 HK HB;have HO436:=n0_;have HO439:=n1_;have HI0:=n2_;have HK:=n3_;have HB:=n4_;clear n0_ n1_ n2_ n3_ n4_ hb ho54;obtain ⟨Ao55,co55,eo55⟩:=Kd.R_slice HO439.out;subst eo55)|((with_reducible refine gate_builtin (b:=.append) (xs:=#[.tmp 49,.tmp 54]) rfl ?_);at_builtin;refine Kd.S_append k30 w.heap.size rfl (.tmp 49) (.tmp 54) 23 30 (.agg #[(.int .i64 0),(.slice none 0 0)]) 32 rfl Tryd.underlying23 info30 rfl (by decide) (by omega) v435 y434 (⟨8,y437⟩:S30) [.int .i64 8,.slice Ao55 y437.length co55] (fun _=>True) (fun k_=>some k_=(.slice Ao55 y437.length co55:Value).ownBlock) rfl rfl ?aP (fun k_ hk_=>((Kd.R_mono (ok':=fun k_=>((fun _=>True)) k_∧some k_≠(v435:Value).ownBlock) (Kd.R_apart' (HO439.out) (Kd.S_typed HO436.out) (by decide)) (fun k_ hk=>⟨trivial,hk.2⟩))).1 k_ hk_.symm) ?aF ?aO (Below.refl _ _) ?aS ?aL ?_;(case aP=>exact k30_mkM _ _ _ (⟨8,y437⟩:S30) (Kd.R_mono (Kd.R_tight rfl (Kd.R_mono (ok':=fun k_=>((fun _=>True)) k_∧some k_≠(v435:Value).ownBlock) (Kd.R_apart' (HO439.out) (Kd.S_typed HO436.out) (by decide)) (fun k_ hk=>⟨trivial,hk.2⟩))) (fun _ h_=>h_)));(case aF=>exact (fun _ _=>trivial));(case aO=>(with_reducible repeat (first|apply Kd.S_alloc|apply Kd.S_drewN|apply Kd.S_drew));exact Kd.S_mono HO436.out (fun k_ hk=>⟨trivial,fun e_=>hk.2 e_⟩));(case aS=>exact (keep_size (w:=w) (g:=g) (row:=none) qz2));(case aL=>have:=LMc45.out;omega);intro v441 w56 ho hb hg hat;rw [← Ny440.out] at ho;have n0_:=Aside0.mk (IsS102.grown qz1 hg (IsS102.own_neS HI0.out HO436.out (by decide)));have n1_:=Aside0.mk (below_weaken qz3 HL.out hb);have n2_:=Aside0.mk (KeepBut.trans qz2 (KeepBut.of_grown hg g) (Kd.S_base2 HO436.out));have n3_:=Aside0.mk (ho);clear HI0 HB HK HO436 HO439;have HI0:=n0_;have HB:=n1_;have HK:=n2_;have HO442:=n3_;clear n0_ n1_ n2_ n3_ ho hb hg hat))
       go_ret
       exact ⟨_,qz7,by (with_reducible repeat (first|apply Kd.S_alloc|apply Kd.S_drewN|apply Kd.S_drew));exact HO442.out,qz1,qz3,qz2⟩
      ·rw [if_neg c45] at H
       exact absurd H (by simp)
     ·rw [if_neg c44] at H
      exact absurd H (by simp)
 ·replace c5:=Bool.eq_false_iff.mpr c5
  subst c5
  have H1:(some (t394,t399))=some (r1,r2):=qz21
  clear H
  have H:=H1
  clear H1
  simp only [Option.some.injEq,Prod.mk.injEq] at H
  obtain ⟨rfl,rfl⟩:=H
  go_enter Tryd.func51,Tryd.ntmps51
  go_wp2_with (first|(go_at_call 88;(with_reducible refine (spec_l20Binds.calls k g s0_0 s0_1 t394 t397 w0 _ ?side1 ?side2 A3.out).mono ?_);(case side1=>exact qz1);(case side2=>exact qz3);rintro e w57 ⟨v395,rfl,ho0,hi,hb,hk⟩;have n0_:=Aside0.mk (Kd.S_lower ho0 (keep_size (w:=w) (g:=g) (row:=none) qz2));have n1_:=Aside0.mk (KeepBut.trans qz2 hk (.inl rfl));have n2_:=Aside0.mk (hb);have n3_:=Aside0.mk (hi);clear HK HB HI0;have HO396:=n0_;have HK:=n1_;have HB:=n2_;have HI0:=n3_;clear n0_ n1_ n2_ n3_;(try clear hb);(try clear hb2);(try clear hk);(try clear hi);(try clear ho0))|(go_at_call 89;(with_reducible refine (spec_l20Rd_odd.calls k g s0_0 t397 a1 false t399 w0 _ ?side1 ?side2 A4.out).mono ?_);(case side1=>exact qz1);(case side2=>exact qz3);rintro e w58 ⟨rfl,hi,hb,hk⟩;have n0_:=Aside0.mk (Kd.S_mono (Kd.S_keep (IsS102.apartS (show IsS102 w0 _ g s0_0 t397 from qz1) qz22 (by decide)) hk (fun _ h=>h.2)) (fun _ h=>h.1));have n1_:=Aside0.mk (KeepBut.trans qz2 hk (.inl rfl));have n2_:=Aside0.mk (hb);have n3_:=Aside0.mk (hi);clear HO396 HK HB HI0;have HO396:=n0_;have HK:=n1_;have HB:=n2_;have HI0:=n3_;clear n0_ n1_ n2_ n3_;(try clear hb);(try clear hb2);(try clear hk);(try clear hi)))
  go_ret
  exact ⟨_,qz7,qz22,qz1,qz3,qz2⟩

/-! ### spec_l20TermOr: function 66 -/
def spec_l20TermOr.f (k:Nat) (s0_0:List Int) (s0_1:Int) (a1:Int):Option ((List (S46)) × Int):=(some (([3,8,20,40]:List Int):List Int)).bind fun y443=>((spec_l20Rd_pick.f k s0_0 s0_1 4).bind fun bt446=>(if 0≤bt446.1 then (if bt446.1<(y443.length:Int) then ((spec_l20Term.f k s0_0 bt446.2 (rd y443 bt446.1) 4).bind fun bt449=>((spec_l20Rd_odd.f k s0_0 bt449.2 a1).bind fun bt453=>(if bt453.1=true then ((spec_l20Spoil.f k s0_0 bt453.2 bt449.1).bind fun bt455=>(some (bt455.1,bt455.2))) else (some (bt449.1,bt453.2))))) else (none)) else (none)))
set_option maxHeartbeats 8000000 in
set_option maxRecDepth 100000 in
theorem spec_l20TermOr.calls (k:Nat) (g:Nat) (s0_0:List Int) (s0_1:Int) (a1:Int) (r1:List (S46)) (r2:Int) (w0 w:World) (hI:IsS102 w0 w g s0_0 s0_1) (hB:Below w0.heap.size w0 w) (h:spec_l20TermOr.f k s0_0 s0_1 a1=some (r1,r2)) :
  Calls Tryd.prog 66 #[.pointer (some ⟨g,0,none⟩),.int .i64 a1] w fun e w'=>∃ v0_:Value,e = .returned (v0_)∧Kd.R k46 46 w' w.heap.size (fun _=>True) v0_ r1∧IsS102 w0 w' g s0_0 r2∧Below w0.heap.size w0 w'∧KeepBut w w' g none:=by
 have HI0:=Aside0.mk hI
 have HK:=Aside0.mk (KeepBut.refl w g none)
 have HL:=Aside0.mk hB.size
 clear hI
 have HW0:=Aside0.mk hB.size
 have HB:=Aside0.mk hB
 clear hB
 have H:((some (([3,8,20,40]:List Int):List Int)).bind fun y443=>((spec_l20Rd_pick.f k s0_0 s0_1 4).bind fun bt446=>(if 0≤bt446.1 then (if bt446.1<(y443.length:Int) then ((spec_l20Term.f k s0_0 bt446.2 (rd y443 bt446.1) 4).bind fun bt449=>((spec_l20Rd_odd.f k s0_0 bt449.2 a1).bind fun bt453=>(if bt453.1=true then ((spec_l20Spoil.f k s0_0 bt453.2 bt449.1).bind fun bt455=>(some (bt455.1,bt455.2))) else (some (bt449.1,bt453.2))))) else (none)) else (none))))=some (r1,r2):=h
 clear h
 obtain ⟨y443,hy443⟩:∃ y_:List Int,y_=(([3,8,20,40]:List Int)):=⟨_,rfl⟩
 replace H:((spec_l20Rd_pick.f k s0_0 s0_1 4).bind fun bt446=>(if 0≤bt446.1 then (if bt446.1<(y443.length:Int) then ((spec_l20Term.f k s0_0 bt446.2 (rd y443 bt446.1) 4).bind fun bt449=>((spec_l20Rd_odd.f k s0_0 bt449.2 a1).bind fun bt453=>(if bt453.1=true then ((spec_l20Spoil.f k s0_0 bt453.2 bt449.1).bind fun bt455=>(some (bt455.1,bt455.2))) else (some (bt449.1,bt453.2))))) else (none)) else (none)))=some (r1,r2):=by first|(rw [hy443];exact H)|exact H
 have Ny443:=Aside0.mk hy443
 clear hy443
 replace H:=Option.bind_eq_some_iff.mp H
 obtain ⟨⟨t446,t447⟩,A30,H⟩:=H
 try dsimp only at H
 have A3:=Aside0.mk A30
 clear A30
 by_cases c4:0≤t446
 ·rw [if_pos c4] at H
  have c4b0:decide (0≤t446)=true:=decide_eq_true c4
  clear c4
  by_cases c5:t446<(y443.length:Int)
  ·rw [if_pos c5] at H
   have c5b0:decide (t446<(y443.length:Int))=true:=decide_eq_true c5
   clear c5
   replace H:=Option.bind_eq_some_iff.mp H
   obtain ⟨⟨t449,t452⟩,A60,H⟩:=H
   try dsimp only at H
   have A6:=Aside0.mk A60
   clear A60
   replace H:=Option.bind_eq_some_iff.mp H
   obtain ⟨⟨t453,t454⟩,A70,H⟩:=H
   try dsimp only at H
   have A7:=Aside0.mk A70
   clear A70
   by_cases c8:t453=true
   ·subst c8
    have H1:((spec_l20Spoil.f k s0_0 t454 t449).bind fun bt455=>(some (bt455.1,bt455.2)))=some (r1,r2):=qz34
    clear H
    have H:=H1
    clear H1
    replace H:=Option.bind_eq_some_iff.mp H
    obtain ⟨⟨t455,t458⟩,A90,H⟩:=H
    try dsimp only at H
    have A9:=Aside0.mk A90
    clear A90
    simp only [Option.some.injEq,Prod.mk.injEq] at H
    obtain ⟨rfl,rfl⟩:=H
    go_enter Tryd.func66,Tryd.ntmps66
    go_wp2_with (first|((with_reducible refine gate_dst (N:=7) rfl ?_);refine Kd.R_lit (Kd.int .i64) _ 3 ?hg (N:=7) ?hd (xs:=([3,8,20,40]:List Int)) (inner:=[.int .i64 3,.int .i64 8,.int .i64 20,.int .i64 40]) (ok:=fun _=>True) (okp:=fun _=>True) ?hr ?hp (fun _ hk=>hk) trivial (Below.refl _ _) (Nat.le_refl _) (by simp) ?_;(case hd=>rfl);(case hg=>rfl);(case hr=>first|(go_simp;done)|(go_simp;rfl));(case hp=>exact (Reps.one (show Kd.M (Kd.int .i64) _ _ _ 3 [.int .i64 3] from rfl) (Reps.one (show Kd.M (Kd.int .i64) _ _ _ 8 [.int .i64 8] from rfl) (Reps.one (show Kd.M (Kd.int .i64) _ _ _ 20 [.int .i64 20] from rfl) (Reps.one (show Kd.M (Kd.int .i64) _ _ _ 40 [.int .i64 40] from rfl) (Reps.none _ _))))));intro v444 w10 ho11 hb hg_ hnew_;clear hg_ hnew_;(first|rw [← Ny443.out] at ho11|(simp only [Int.reduceToNat] at ho11;rw [← Ny443.out] at ho11));have n0_:=Aside0.mk (Kd.R_lower ho11 (keep_size (w:=w) (g:=g) (row:=none) qz2));have n1_:=Aside0.mk (IsS102.below qz1 hb);have n2_:=Aside0.mk (KeepBut.trans qz2 (KeepBut.of_below hb g none) (.inl rfl));have n3_:=Aside0.mk (below_step qz3 hb);clear HI0 HK HB;have HO445:=n0_;have HI0:=n1_;have HK:=n2_;have HB:=n3_;clear n0_ n1_ n2_ n3_ hb ho11)|(go_at_call 52;(with_reducible refine (spec_l20Rd_pick.calls k g s0_0 s0_1 4 t446 t447 w0 _ ?side1 ?side2 A3.out).mono ?_);(case side1=>exact qz1);(case side2=>exact qz3);rintro e w12 ⟨rfl,hi,hb,hk⟩;have n0_:=Aside0.mk (Kd.R_mono (Kd.R_keep (IsS102.apart (show IsS102 w0 _ g s0_0 s0_1 from qz1) qz45 (by decide)) hk (fun _ h=>h.2)) (fun _ h=>h.1));have n1_:=Aside0.mk (KeepBut.trans qz2 hk (.inl rfl));have n2_:=Aside0.mk (hb);have n3_:=Aside0.mk (hi);clear HO445 HK HB HI0;have HO445:=n0_;have HK:=n1_;have HB:=n2_;have HI0:=n3_;clear n0_ n1_ n2_ n3_;(try clear hb);(try clear hb2);(try clear hk);(try clear hi);obtain ⟨Ao13,co13,eo13⟩:=Kd.R_slice HO445.out;subst eo13;have p448:0≤(t446:Int):=of_decide_eq_true qz6;have q448:t446<(y443.length:Int):=of_decide_eq_true qz6;obtain ⟨ad448,e448,hx448_0⟩:=Kd.at_int (Kd.R_reads' HO445.out).2.2 t446 p448 q448;cases e448;replace p448:=eq_true p448;replace q448:=eq_true q448)|(go_at_call 91;(with_reducible refine (spec_l20Term.calls k g s0_0 t447 (rd y443 t446) 4 t449 t452 w0 _ ?side1 ?side2 A6.out).mono ?_);(case side1=>exact qz1);(case side2=>exact qz3);rintro e w14 ⟨v450,rfl,ho0,hi,hb,hk⟩;have n0_:=Aside0.mk (Kd.R_mono (Kd.R_keep (IsS102.apart (show IsS102 w0 _ g s0_0 t447 from qz1) qz45 (by decide)) hk (fun _ h=>h.2)) (fun _ h=>h.1));have n1_:=Aside0.mk (Kd.R_lower ho0 (keep_size (w:=w) (g:=g) (row:=none) qz2));have n2_:=Aside0.mk (KeepBut.trans qz2 hk (.inl rfl));have n3_:=Aside0.mk (hb);have n4_:=Aside0.mk (hi);clear HO445 HK HB HI0;have HO445:=n0_;have HO451:=n1_;have HK:=n2_;have HB:=n3_;have HI0:=n4_;clear n0_ n1_ n2_ n3_ n4_;(try clear hb);(try clear hb2);(try clear hk);(try clear hi);(try clear ho0))|(go_at_call 89;(with_reducible refine (spec_l20Rd_odd.calls k g s0_0 t452 a1 true t454 w0 _ ?side1 ?side2 A7.out).mono ?_);(case side1=>exact qz1);(case side2=>exact qz3);rintro e w15 ⟨rfl,hi,hb,hk⟩;have n0_:=Aside0.mk (Kd.R_mono (Kd.R_keep (IsS102.apart (show IsS102 w0 _ g s0_0 t452 from qz1) qz45 (by decide)) hk (fun _ h=>h.2)) (fun _ h=>h.1));have n1_:=Aside0.mk (Kd.R_mono (Kd.R_keep (IsS102.apart (show IsS102 w0 _ g s0_0 t452 from qz1) qz47 (by decide)) hk (fun _ h=>h.2)) (fun _ h=>h.1));have n2_:=Aside0.mk (KeepBut.trans qz2 hk (.inl rfl));have n3_:=Aside0.mk (hb);have n4_:=Aside0.mk (hi);clear HO445 HO451 HK HB HI0;have HO445:=n0_;have HO451:=n1_;have HK:=n2_;have HB:=n3_;have HI0:=n4_;clear n0_ n1_ n2_ n3_ n4_;(try clear hb);(try clear hb2);(try clear hk);(try clear hi);obtain ⟨Ao16,co16,eo16⟩:=Kd.R_slice HO451.out;subst eo16)|(go_at_call 90;(with_reducible refine (spec_l20Spoil.calls k g s0_0 t454 _ _ t449 t455 t458 w0 _ ?side1 ?side2 ?side3 ?side4 A9.out).mono ?_);(case side1=>exact qz1);(case side2=>exact qz3);(case side3=>exact Kd.C_foot_own (IsS102.apart (show IsS102 w0 _ g s0_0 t454 from qz1) qz47 (by decide)) (fun _ h_=>h_.2));(case side4=>exact (Kd.R_reads' HO451.out).2.1);rintro e w17 ⟨v456,rfl,ho0,hi,hb,hk⟩;have n0_:=Aside0.mk (Kd.R_mono (Kd.R_keep (IsS102.apart (show IsS102 w0 _ g s0_0 t454 from qz1) qz45 (by decide)) hk (fun _ h=>h.2)) (fun _ h=>h.1));have n1_:=Aside0.mk (Kd.R_mono (Kd.R_told (Kd.R_oldK (IsS102.apart (show IsS102 w0 _ g s0_0 t454 from qz1) qz47 (by decide)) hk) (Kd.R_base ho0)) (fun _ h_=>h_.1));have n2_:=Aside0.mk (Kd.R_lower (Kd.R_new' ho0 (Kd.R_lt qz47)) (keep_size (w:=w) (g:=g) (row:=none) qz2));have n3_:=Aside0.mk (KeepBut.trans qz2 hk (.inl rfl));have n4_:=Aside0.mk (hb);have n5_:=Aside0.mk (hi);clear HO445 HO451 HK HB HI0;have HO445:=n0_;have HO451:=n1_;have HO457:=n2_;have HK:=n3_;have HB:=n4_;have HI0:=n5_;clear n0_ n1_ n2_ n3_ n4_ n5_;(try clear hb);(try clear hb2);(try clear hk);(try clear hi);(try clear ho0)))
    go_ret
    exact ⟨_,qz7,by (with_reducible repeat (first|apply Kd.R_alloc|apply Kd.R_drewN|apply Kd.R_drew));exact Kd.R_mono HO457.out (fun _ hk=>trivial),qz1,qz3,qz2⟩
   ·replace c8:=Bool.eq_false_iff.mpr c8
    subst c8
    have H1:(some (t449,t454))=some (r1,r2):=qz21
    clear H
    have H:=H1
    clear H1
    simp only [Option.some.injEq,Prod.mk.injEq] at H
    obtain ⟨rfl,rfl⟩:=H
    go_enter Tryd.func66,Tryd.ntmps66
    go_wp2_with (first|((with_reducible refine gate_dst (N:=7) rfl ?_);refine Kd.R_lit (Kd.int .i64) _ 3 ?hg (N:=7) ?hd (xs:=([3,8,20,40]:List Int)) (inner:=[.int .i64 3,.int .i64 8,.int .i64 20,.int .i64 40]) (ok:=fun _=>True) (okp:=fun _=>True) ?hr ?hp (fun _ hk=>hk) trivial (Below.refl _ _) (Nat.le_refl _) (by simp) ?_;(case hd=>rfl);(case hg=>rfl);(case hr=>first|(go_simp;done)|(go_simp;rfl));(case hp=>exact (Reps.one (show Kd.M (Kd.int .i64) _ _ _ 3 [.int .i64 3] from rfl) (Reps.one (show Kd.M (Kd.int .i64) _ _ _ 8 [.int .i64 8] from rfl) (Reps.one (show Kd.M (Kd.int .i64) _ _ _ 20 [.int .i64 20] from rfl) (Reps.one (show Kd.M (Kd.int .i64) _ _ _ 40 [.int .i64 40] from rfl) (Reps.none _ _))))));intro v444 w18 ho19 hb hg_ hnew_;clear hg_ hnew_;(first|rw [← Ny443.out] at ho19|(simp only [Int.reduceToNat] at ho19;rw [← Ny443.out] at ho19));have n0_:=Aside0.mk (Kd.R_lower ho19 (keep_size (w:=w) (g:=g) (row:=none) qz2));have n1_:=Aside0.mk (IsS102.below qz1 hb);have n2_:=Aside0.mk (KeepBut.trans qz2 (KeepBut.of_below hb g none) (.inl rfl));have n3_:=Aside0.mk (below_step qz3 hb);clear HI0 HK HB;have HO445:=n0_;have HI0:=n1_;have HK:=n2_;have HB:=n3_;clear n0_ n1_ n2_ n3_ hb ho19)|(go_at_call 52;(with_reducible refine (spec_l20Rd_pick.calls k g s0_0 s0_1 4 t446 t447 w0 _ ?side1 ?side2 A3.out).mono ?_);(case side1=>exact qz1);(case side2=>exact qz3);rintro e w20 ⟨rfl,hi,hb,hk⟩;have n0_:=Aside0.mk (Kd.R_mono (Kd.R_keep (IsS102.apart (show IsS102 w0 _ g s0_0 s0_1 from qz1) qz45 (by decide)) hk (fun _ h=>h.2)) (fun _ h=>h.1));have n1_:=Aside0.mk (KeepBut.trans qz2 hk (.inl rfl));have n2_:=Aside0.mk (hb);have n3_:=Aside0.mk (hi);clear HO445 HK HB HI0;have HO445:=n0_;have HK:=n1_;have HB:=n2_;have HI0:=n3_;clear n0_ n1_ n2_ n3_;(try clear hb);(try clear hb2);(try clear hk);(try clear hi);obtain ⟨Ao21,co21,eo21⟩:=Kd.R_slice HO445.out;subst eo21;have p448:0≤(t446:Int):=of_decide_eq_true qz6;have q448:t446<(y443.length:Int):=of_decide_eq_true qz6;obtain ⟨ad448,e448,hx448_0⟩:=Kd.at_int (Kd.R_reads' HO445.out).2.2 t446 p448 q448;cases e448;replace p448:=eq_true p448;replace q448:=eq_true q448)|(go_at_call 91;(with_reducible refine (spec_l20Term.calls k g s0_0 t447 (rd y443 t446) 4 t449 t452 w0 _ ?side1 ?side2 A6.out).mono ?_);(case side1=>exact qz1);(case side2=>exact qz3);rintro e w22 ⟨v450,rfl,ho0,hi,hb,hk⟩;have n0_:=Aside0.mk (Kd.R_mono (Kd.R_keep (IsS102.apart (show IsS102 w0 _ g s0_0 t447 from qz1) qz45 (by decide)) hk (fun _ h=>h.2)) (fun _ h=>h.1));have n1_:=Aside0.mk (Kd.R_lower ho0 (keep_size (w:=w) (g:=g) (row:=none) qz2));have n2_:=Aside0.mk (KeepBut.trans qz2 hk (.inl rfl));have n3_:=Aside0.mk (hb);have n4_:=Aside0.mk (hi);clear HO445 HK HB HI0;have HO445:=n0_;have HO451:=n1_;have HK:=n2_;have HB:=n3_;have HI0:=n4_;clear n0_ n1_ n2_ n3_ n4_;(try clear hb);(try clear hb2);(try clear hk);(try clear hi);(try clear ho0))|(go_at_call 89;(with_reducible refine (spec_l20Rd_odd.calls k g s0_0 t452 a1 false t454 w0 _ ?side1 ?side2 A7.out).mono ?_);(case side1=>exact qz1);(case side2=>exact qz3);rintro e w23 ⟨rfl,hi,hb,hk⟩;have n0_:=Aside0.mk (Kd.R_mono (Kd.R_keep (IsS102.apart (show IsS102 w0 _ g s0_0 t452 from qz1) qz45 (by decide)) hk (fun _ h=>h.2)) (fun _ h=>h.1));have n1_:=Aside0.mk (Kd.R_mono (Kd.R_keep (IsS102.apart (show IsS102 w0 _ g s0_0 t452 from qz1) qz47 (by decide)) hk (fun _ h=>h.2)) (fun _ h=>h.1));have n2_:=Aside0.mk (KeepBut.trans qz2 hk (.inl rfl));have n3_:=Aside0.mk (hb);have n4_:=Aside0.mk (hi);clear HO445 HO451 HK HB HI0;have HO445:=n0_;have HO451:=n1_;have HK:=n2_;have HB:=n3_;have HI0:=n4_;clear n0_ n1_ n2_ n3_ n4_;(try clear hb);(try clear hb2);(try clear hk);(try clear hi)))
    go_ret
    exact ⟨_,qz7,qz47,qz1,qz3,qz2⟩
  ·rw [if_neg c5] at H
   exact absurd H (by simp)
 ·rw [if_neg c4] at H
  exact absurd H (by simp)

/-! ### spec_DrawSubFull: function 41 -/
def spec_DrawSubFull.f (k:Nat) (l0:List Int):Option ((List (S30)) × (List (S46))):=(spec_l20Open.f l0).bind fun bt459=>((spec_l20BindsOr.f k bt459.1 bt459.2 14).bind fun bt462=>((spec_l20TermOr.f k bt459.1 bt462.2 14).bind fun bt466=>(some (bt462.1,bt466.1))))
set_option maxHeartbeats 8000000 in
set_option maxRecDepth 100000 in
theorem spec_DrawSubFull.calls (k:Nat) (A0:Option Addr) (c0:Nat) (l0:List Int) (r1:List (S30)) (r2:List (S46)) (w:World) (hr0:Kd.C (Kd.int .u8) w A0 l0.length l0) (hc0:l0.length≤c0) (h:spec_DrawSubFull.f k l0=some (r1,r2)) :
  Calls Tryd.prog 41 #[.slice A0 l0.length c0] w fun e w'=>∃ v0_ v1_:Value,e = .returned (.tuple #[v0_,v1_])∧Kd.S k30 30 w' w.heap.size (fun k_=>some k_≠(v1_:Value).ownBlock) v0_ r1∧Kd.R k46 46 w' w.heap.size (fun _=>True) v1_ r2∧Below w.heap.size w w':=by
 have HR0:=Aside0.mk hr0
 have HC0:=Aside0.mk hc0
 clear hr0 hc0
 have HB:=Aside0.mk (Below.refl w.heap.size w)
 have H:((spec_l20Open.f l0).bind fun bt459=>((spec_l20BindsOr.f k bt459.1 bt459.2 14).bind fun bt462=>((spec_l20TermOr.f k bt459.1 bt462.2 14).bind fun bt466=>(some (bt462.1,bt466.1)))))=some (r1,r2):=h
 clear h
 replace H:=Option.bind_eq_some_iff.mp H
 obtain ⟨⟨t459,t460⟩,A20,H⟩:=H
 try dsimp only at H
 have A2:=Aside0.mk A20
 clear A20
 replace H:=Option.bind_eq_some_iff.mp H
 obtain ⟨⟨t462,t465⟩,A30,H⟩:=H
 try dsimp only at H
 have A3:=Aside0.mk A30
 clear A30
 replace H:=Option.bind_eq_some_iff.mp H
 obtain ⟨⟨t466,t469⟩,A40,H⟩:=H
 try dsimp only at H
 have A4:=Aside0.mk A40
 clear A40
 simp only [Option.some.injEq,Prod.mk.injEq] at H
 obtain ⟨rfl,rfl⟩:=H
 go_enter Tryd.func41,Tryd.ntmps41
 go_wp2_with (first|(go_at_call 50;(with_reducible refine (spec_l20Open.calls _ _ l0 t459 t460 w _ ?side1 ?side2 ?side3 A2.out).mono ?_);(case side1=>exact qz5);(case side2=>exact HR0.out);(case side3=>exact HC0.out);rintro e w5 ⟨g461,rfl,hi,hb,hb2⟩;have n0_:=Aside0.mk (hb);have n1_:=Aside0.mk (hi);clear HB;have HB:=n0_;have HI461:=n1_;clear n0_ n1_;(try clear hb);(try clear hb2);(try clear hk);(try clear hi))|(go_at_call 51;(with_reducible refine (spec_l20BindsOr.calls k g461 t459 t460 14 t462 t465 w _ ?side1 ?side2 A3.out).mono ?_);(case side1=>exact qz58);(case side2=>exact qz43);rintro e w6 ⟨v463,rfl,ho0,hi,hb,hk⟩;have n0_:=Aside0.mk (Kd.S_lower ho0 (below_size qz43));have n1_:=Aside0.mk (hb);have n2_:=Aside0.mk (hi);clear HB HI461;have HO464:=n0_;have HB:=n1_;have HI461:=n2_;clear n0_ n1_ n2_;(try clear hb);(try clear hb2);(try clear hk);(try clear hi);(try clear ho0))|(go_at_call 66;(with_reducible refine (spec_l20TermOr.calls k g461 t459 t465 14 t466 t469 w _ ?side1 ?side2 A4.out).mono ?_);(case side1=>exact qz58);(case side2=>exact qz43);rintro e w7 ⟨v467,rfl,ho0,hi,hb,hk⟩;have n0_:=Aside0.mk (Kd.S_mono (Kd.S_told (Kd.S_oldK (IsS102.apartS (show IsS102 w _ g461 t459 t465 from qz58) (by (with_reducible repeat (first|apply Kd.S_alloc|apply Kd.S_drewN|apply Kd.S_drew));exact HO464.out) (by decide)) hk) (Kd.R_base ho0)) (fun _ h_=>h_.1));have n1_:=Aside0.mk (Kd.R_lower ho0 (below_size qz43));have n2_:=Aside0.mk (hb);have n3_:=Aside0.mk (hi);clear HO464 HB HI461;have HO464:=n0_;have HO468:=n1_;have HB:=n2_;have HI461:=n3_;clear n0_ n1_ n2_ n3_;(try clear hb);(try clear hb2);(try clear hk);(try clear hi);(try clear ho0)))
 go_ret2
 exact ⟨_,_,qz7,by (with_reducible repeat (first|apply Kd.S_alloc|apply Kd.S_drewN|apply Kd.S_drew));exact Kd.S_mono HO464.out (fun _ hk=>hk.2),by (with_reducible repeat (first|apply Kd.R_alloc|apply Kd.R_drewN|apply Kd.R_drew));exact HO468.out,qz43⟩

end Go.Proofs.YtlaicnoikeieeaaDoor.P
