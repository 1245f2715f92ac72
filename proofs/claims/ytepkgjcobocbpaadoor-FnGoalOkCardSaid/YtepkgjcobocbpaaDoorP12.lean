/- Contracts of functions of the program: each as a Lean function, and that its call does what that says; printed by cprint.py (this session) over print.py of the kit. Conditions: the hypotheses of each theorem. -/
import Derived.Test.YtepkgjcobocbpaaDoorVZ
import Derived.Test.YtepkgjcobocbpaaDoorP0
import Derived.Test.YtepkgjcobocbpaaDoorP4
import Derived.Test.YtepkgjcobocbpaaDoorP5
import Derived.Test.YtepkgjcobocbpaaDoorP6
import Derived.Test.YtepkgjcobocbpaaDoorP11
namespace Go.Proofs.YtepkgjcobocbpaaDoor.P
open Go.RowKit Go.Proofs.YtepkgjcobocbpaaDoorW.PrintWords Go.Proofs.YtepkgjcobocbpaaDoorW.PrintLast Go.Proofs.YtepkgjcobocbpaaDoorW.PrintMore
attribute [local go_sem] max2_int min2_int max_two min_two max_three min_three max_four min_four   -- for this text's walks alone
set_option linter.unusedVariables false
set_option linter.unusedSimpArgs false

/-! ### laws_FnGoalOk: function 4 -/
def laws_FnGoalOk.f (k:Nat) (l0:List Int):Option (Bool):=if (l0.length:Int) > 1048576 then (some true) else ((spec_DrawGoalOk.f k l0).bind fun bt356=>((impl_GoalOk.f bt356.1 bt356.2.1 bt356.2.2.1 bt356.2.2.2).bind fun t367=>((spec_GoalOk.f k bt356.1 bt356.2.1 bt356.2.2.1 bt356.2.2.2).bind fun t368=>(if (t367 != t368)=true then (some false) else (if t367=true then ((impl_GoalOk.f bt356.1 bt356.2.1 bt356.2.2.1 (([(⟨2,0,(⟨#[]⟩:ByteArray)⟩:S47)]:List (S47)))).bind fun t378=>(if ((bt356.1 == 5) == t378)=true then ((impl_GoalOk.f bt356.1 (([]:List (S47))) bt356.2.2.1 bt356.2.2.2).bind fun t379=>(some ((bt356.1 == 3) == t379))) else (some false))) else ((laws_caOk.f).bind fun t369=>(some t369)))))))
def laws_FnGoalOk.T13:Bool × List (List Nat × List Nat):=(true,[([],[]),([0],[0]),([1],[1]),([],[]),([3],[3]),([2,4],[2,4]),([5,4],[5]),([6],[6]),([7,6],[6,7]),([8,6],[6,8]),([6],[6]),([10,6,6],[6,10]),([9,11,6],[6,9,11]),([6,12],[6,12]),([13,11,0,1,2,3,4,5,6,7,8,9,10,11,12,13],[13])])
def laws_FnGoalOk.B13:List Nat:=[0,1,3,0,8,31,63,127,255,511,127,1151,4095,8191,16383]
theorem laws_FnGoalOk.tab13:rtab .any (opsOf Tryd.f4 13)=laws_FnGoalOk.T13:=by kernel_rfl
theorem laws_FnGoalOk.bits13:waitsOk laws_FnGoalOk.T13.2 laws_FnGoalOk.B13=true:=by kernel_rfl
set_option maxHeartbeats 8000000 in
set_option maxRecDepth 100000 in
theorem laws_FnGoalOk.calls (k:Nat) (A0:Option Addr) (c0:Nat) (l0:List Int) (r:Bool) (w:World) (hr0:Kd.C (Kd.int .u8) w A0 l0.length l0) (hc0:l0.length≤c0) (h:laws_FnGoalOk.f k l0=some r) :
  Calls Tryd.prog 4 #[.slice A0 l0.length c0] w fun e w'=>e = .returned (.bool r)∧Below w.heap.size w w':=by
 have hu42:=Tryd.underlying42
 have hu47:=Tryd.underlying47
 have HR0:=Aside0.mk hr0
 have HC0:=Aside0.mk hc0
 clear hr0 hc0
 have HB:=Aside0.mk (Below.refl w.heap.size w)
 have H:(if (l0.length:Int) > 1048576 then (some true) else ((spec_DrawGoalOk.f k l0).bind fun bt356=>((impl_GoalOk.f bt356.1 bt356.2.1 bt356.2.2.1 bt356.2.2.2).bind fun t367=>((spec_GoalOk.f k bt356.1 bt356.2.1 bt356.2.2.1 bt356.2.2.2).bind fun t368=>(if (t367 != t368)=true then (some false) else (if t367=true then ((impl_GoalOk.f bt356.1 bt356.2.1 bt356.2.2.1 (([(⟨2,0,(⟨#[]⟩:ByteArray)⟩:S47)]:List (S47)))).bind fun t378=>(if ((bt356.1 == 5) == t378)=true then ((impl_GoalOk.f bt356.1 (([]:List (S47))) bt356.2.2.1 bt356.2.2.2).bind fun t379=>(some ((bt356.1 == 3) == t379))) else (some false))) else ((laws_caOk.f).bind fun t369=>(some t369))))))))=some r:=h
 clear h
 by_cases c2:(l0.length:Int) > 1048576
 ·rw [if_pos c2] at H
  have c2b0:decide (1048576<(l0.length:Int))=true:=decide_eq_true c2
  have c2b1:decide (1048576<l0.length)=true:=decide_eq_true (by omega)
  clear c2
  obtain rfl:=Option.some.inj H
  go_enter Tryd.func4,Tryd.ntmps4
  go_wp2
  go_ret
  exact ⟨qz9,qz12⟩
 ·rw [if_neg c2] at H
  have c2b0:decide (1048576<(l0.length:Int))=false:=decide_eq_false c2
  have c2b1:decide (1048576<l0.length)=false:=decide_eq_false (by omega)
  clear c2
  replace H:=Option.bind_eq_some_iff.mp H
  obtain ⟨⟨t356,t357,t360,t363⟩,A30,H⟩:=H
  try dsimp only at H
  have A3:=Aside0.mk A30
  clear A30
  replace H:=Option.bind_eq_some_iff.mp H
  obtain ⟨t367,A40,H⟩:=H
  try dsimp only at H
  have A4:=Aside0.mk A40
  clear A40
  replace H:=Option.bind_eq_some_iff.mp H
  obtain ⟨t368,A50,H⟩:=H
  try dsimp only at H
  have A5:=Aside0.mk A50
  clear A50
  by_cases c6:(t367 != t368)=true
  ·rw [if_pos c6] at H
   have c6b0:(t367 != t368)=true:=c6
   (try (have c6b1:decide (t367=t368)=false:=by simpa using c6))
   (try (have c6b2:(t367 == t368)=false:=by simpa using c6))
   (try (have c6b3:¬ (t367=t368):=by simpa using c6))
   clear c6
   obtain rfl:=Option.some.inj H
   go_enter Tryd.func4,Tryd.ntmps4
   go_wp2_with (first|((with_reducible refine gate_callee (f:=14) rfl ?_);refine goesL_ (some 11) rfl rfl Tryd.func14 (by kernel_rfl) rfl #[.slice A0 l0.length c0] rfl qz4 ?_;(with_reducible refine (spec_DrawGoalOk.calls k _ _ l0 t356 t357 t360 t363 _ ?side1 ?side2 A3.out).mono ?_);(case side1=>exact qz50);(case side2=>exact HC0.out);rintro e w7 ⟨v358,v361,v364,rfl,ho0,ho1,ho2,hb⟩;refine ⟨_,rfl,?_⟩;have n0_:=Aside0.mk (Kd.R_lower ho0 (below_size qz6));have n1_:=Aside0.mk (Kd.R_lower ho1 (below_size qz6));have n2_:=Aside0.mk (Kd.R_lower ho2 (below_size qz6));have n3_:=Aside0.mk (below_step qz6 hb);clear HB;have HO359:=n0_;have HO362:=n1_;have HO365:=n2_;have HB:=n3_;clear n0_ n1_ n2_ n3_;(try clear hb);(try clear hb2);(try clear hk);(try clear hi);(try clear ho0);(try clear ho1);(try clear ho2))|((with_reducible refine gate_dst (N:=3) rfl ?_);refine box_event ?hg (N:=3) ?hd (cs:=#[.int .i64 0,.slice none 0 0,.slice none 0 0,.slice none 0 0]) (t:=42) ?hr ?_;(case hd=>rfl);(case hg=>rfl);(case hr=>first|(go_simp;done)|(go_simp;rfl));intro gb366 hg w8 hbox hb;have n0_:=Aside0.mk (Kd.R_below qz41 hb);have n1_:=Aside0.mk (Kd.R_below qz40 hb);have n2_:=Aside0.mk (Kd.R_below qz39 hb);have n3_:=Aside0.mk (below_step qz6 hb);have n4_:=Aside0.mk (hbox);have n5_:=Aside0.mk ((by rw [hg];exact (below_size qz6):w.heap.size≤gb366));have n6_:=Aside0.mk ((by rw [hg];exact (below_size qz6):w.heap.size≤gb366));clear HO359 HO362 HO365 HB;have HO359:=n0_;have HO362:=n1_;have HO365:=n2_;have HB:=n3_;have BK366:=n4_;have GW366:=n5_;have GE366:=n6_;clear n0_ n1_ n2_ n3_ n4_ n5_ n6_ hb hbox hg;have hcz9_0:w8.cell? ⟨gb366,0,none⟩=some (.int .i64 0):=(blk_cell BK366.out 0).trans rfl;have hcz9_1:w8.cell? ⟨gb366,1,none⟩=some (.slice none 0 0):=(blk_cell BK366.out 1).trans rfl;have hcz9_2:w8.cell? ⟨gb366,2,none⟩=some (.slice none 0 0):=(blk_cell BK366.out 2).trans rfl;have hcz9_3:w8.cell? ⟨gb366,3,none⟩=some (.slice none 0 0):=(blk_cell BK366.out 3).trans rfl;have hfz9_0:=blk_frozen BK366.out 0;have hfz9_1:=blk_frozen BK366.out 1;have hfz9_2:=blk_frozen BK366.out 2;have hfz9_3:=blk_frozen BK366.out 3;obtain ⟨Ao10,co10,eo10⟩:=Kd.R_slice HO359.out;subst eo10;obtain ⟨Ao11,co11,eo11⟩:=Kd.R_slice HO362.out;subst eo11;obtain ⟨Ao12,co12,eo12⟩:=Kd.R_slice HO365.out;subst eo12)|((with_reducible refine gate_callee (f:=15) rfl ?_);refine goesL_ (some 13) rfl rfl Tryd.func15 (by kernel_rfl) rfl #[.agg #[.int .i64 t356,.slice Ao10 t357.length co10,.slice Ao11 t360.length co11,.slice Ao12 t363.length co12]] rfl qz4 ?_;(with_reducible refine (impl_GoalOk.calls t356 _ _ t357 _ _ t360 _ _ t363 t367 _ ?side1 ?side2 ?side3 ?side4 ?side5 ?side6 A4.out).mono ?_);(case side1=>refine (Kd.R_reads' (e:=47) (base:=w.heap.size) (ok:=fun k_=>(some k_≠(.slice Ao11 t360.length co11:Value).ownBlock∧some k_≠(.slice Ao12 t363.length co12:Value).ownBlock)) (n:=t357.length) (c:=co10) ?_).2.2;exact qz96);(case side2=>exact (Kd.R_reads' HO359.out).2.1);(case side3=>refine (Kd.R_reads' (e:=47) (base:=w.heap.size) (ok:=fun k_=>(some k_≠(.slice Ao10 t357.length co10:Value).ownBlock∧some k_≠(.slice Ao12 t363.length co12:Value).ownBlock)) (n:=t360.length) (c:=co11) ?_).2.2;exact qz92);(case side4=>exact (Kd.R_reads' HO362.out).2.1);(case side5=>refine (Kd.R_reads' (e:=47) (base:=w.heap.size) (ok:=fun k_=>(some k_≠(.slice Ao10 t357.length co10:Value).ownBlock∧some k_≠(.slice Ao11 t360.length co11:Value).ownBlock)) (n:=t363.length) (c:=co12) ?_).2.2;exact qz88);(case side6=>exact (Kd.R_reads' HO365.out).2.1);rintro e w13 ⟨rfl,hb⟩;refine ⟨_,rfl,?_⟩;have n0_:=Aside0.mk (Kd.R_below qz96 hb);have n1_:=Aside0.mk (Kd.R_below qz92 hb);have n2_:=Aside0.mk (Kd.R_below qz88 hb);have n3_:=Aside0.mk (blk_below (g:=gb366) (o:=.cells #[.int .i64 t356,.slice Ao10 t357.length co10,.slice Ao11 t360.length co11,.slice Ao12 t363.length co12] 42 (0,0)) (by (with_reducible repeat (first|refine blk_drewN ?_ _|refine blk_drew ?_|refine blk_alloc ?_ _));refine blk_put (cs:=#[.int .i64 t356,.slice Ao10 t357.length co10,.slice Ao11 t360.length co11,.slice none 0 0]) ?_ 3 _ rfl;(with_reducible repeat (first|refine blk_drewN ?_ _|refine blk_drew ?_|refine blk_alloc ?_ _));refine blk_put (cs:=#[.int .i64 t356,.slice Ao10 t357.length co10,.slice none 0 0,.slice none 0 0]) ?_ 2 _ rfl;(with_reducible repeat (first|refine blk_drewN ?_ _|refine blk_drew ?_|refine blk_alloc ?_ _));refine blk_put (cs:=#[.int .i64 t356,.slice none 0 0,.slice none 0 0,.slice none 0 0]) ?_ 1 _ rfl;(with_reducible repeat (first|refine blk_drewN ?_ _|refine blk_drew ?_|refine blk_alloc ?_ _));refine blk_put (cs:=#[.int .i64 0,.slice none 0 0,.slice none 0 0,.slice none 0 0]) ?_ 0 _ rfl;(with_reducible repeat (first|refine blk_drewN ?_ _|refine blk_drew ?_|refine blk_alloc ?_ _));exact BK366.out) hb);have n4_:=Aside0.mk (below_step qz18 hb);clear HO359 HO362 HO365 BK366 HB;have HO359:=n0_;have HO362:=n1_;have HO365:=n2_;have BK366:=n3_;have HB:=n4_;clear n0_ n1_ n2_ n3_ n4_;(try clear hb);(try clear hb2);(try clear hk);(try clear hi);have hcz14_0:w13.cell? ⟨gb366,0,none⟩=some (.int .i64 t356):=(blk_cell BK366.out 0).trans rfl;have hcz14_1:w13.cell? ⟨gb366,1,none⟩=some (.slice Ao10 t357.length co10):=(blk_cell BK366.out 1).trans rfl;have hcz14_2:w13.cell? ⟨gb366,2,none⟩=some (.slice Ao11 t360.length co11):=(blk_cell BK366.out 2).trans rfl;have hcz14_3:w13.cell? ⟨gb366,3,none⟩=some (.slice Ao12 t363.length co12):=(blk_cell BK366.out 3).trans rfl;have hfz14_0:=blk_frozen BK366.out 0;have hfz14_1:=blk_frozen BK366.out 1;have hfz14_2:=blk_frozen BK366.out 2;have hfz14_3:=blk_frozen BK366.out 3)|((with_reducible refine gate_callee (f:=16) rfl ?_);refine goesL_ (some 16) rfl rfl Tryd.func16 (by kernel_rfl) rfl #[.agg #[.int .i64 t356,.slice Ao10 t357.length co10,.slice Ao11 t360.length co11,.slice Ao12 t363.length co12]] rfl qz4 ?_;(with_reducible refine (spec_GoalOk.calls k t356 _ _ t357 _ _ t360 _ _ t363 t368 _ ?side1 ?side2 ?side3 ?side4 ?side5 ?side6 A5.out).mono ?_);(case side1=>exact qz51);(case side2=>exact (Kd.R_reads' HO359.out).2.1);(case side3=>exact qz47);(case side4=>exact (Kd.R_reads' HO362.out).2.1);(case side5=>exact qz61);(case side6=>exact (Kd.R_reads' HO365.out).2.1);rintro e w15 ⟨rfl,hb⟩;refine ⟨_,rfl,?_⟩;have n0_:=Aside0.mk (Kd.R_below qz41 hb);have n1_:=Aside0.mk (Kd.R_below qz40 hb);have n2_:=Aside0.mk (Kd.R_below qz39 hb);have n3_:=Aside0.mk (blk_below (g:=gb366) (o:=.cells #[.int .i64 t356,.slice Ao10 t357.length co10,.slice Ao11 t360.length co11,.slice Ao12 t363.length co12] 42 (0,0)) qz36 hb);have n4_:=Aside0.mk (below_step qz18 hb);clear HO359 HO362 HO365 BK366 HB;have HO359:=n0_;have HO362:=n1_;have HO365:=n2_;have BK366:=n3_;have HB:=n4_;clear n0_ n1_ n2_ n3_ n4_;(try clear hb);(try clear hb2);(try clear hk);(try clear hi)))
   go_ret
   exact ⟨qz9,qz18⟩
  ·rw [if_neg c6] at H
   have c6b0:(t367 != t368)=false:=by simpa using c6
   (try (have c6b1:decide (t367=t368)=true:=by simpa using c6))
   (try (have c6b2:(t367 == t368)=true:=by simpa using c6))
   clear c6
   by_cases c16:t367=true
   ·subst c16
    have H1:((impl_GoalOk.f t356 t357 t360 (([(⟨2,0,(⟨#[]⟩:ByteArray)⟩:S47)]:List (S47)))).bind fun t378=>(if ((t356 == 5) == t378)=true then ((impl_GoalOk.f t356 (([]:List (S47))) t360 t363).bind fun t379=>(some ((t356 == 3) == t379))) else (some false)))=some r:=qz55
    clear H
    have H:=H1
    clear H1
    obtain ⟨y371,hy371⟩:∃ y_:List (S47),y_=(([(⟨2,0,(⟨#[]⟩:ByteArray)⟩:S47)]:List (S47))):=⟨_,rfl⟩
    replace H:((impl_GoalOk.f t356 t357 t360 y371).bind fun t378=>(if ((t356 == 5) == t378)=true then ((impl_GoalOk.f t356 (([]:List (S47))) t360 t363).bind fun t379=>(some ((t356 == 3) == t379))) else (some false)))=some r:=by first|(rw [hy371];exact H)|exact H
    have Ny371:=Aside0.mk hy371
    clear hy371
    obtain ⟨y375,hy375⟩:∃ y_:List (S47),y_=(([]:List (S47))):=⟨_,rfl⟩
    replace H:((impl_GoalOk.f t356 t357 t360 y371).bind fun t378=>(if ((t356 == 5) == t378)=true then ((impl_GoalOk.f t356 y375 t360 t363).bind fun t379=>(some ((t356 == 3) == t379))) else (some false)))=some r:=by first|(rw [hy375];exact H)|exact H
    have Ny375:=Aside0.mk hy375
    clear hy375
    replace H:=Option.bind_eq_some_iff.mp H
    obtain ⟨t378,A170,H⟩:=H
    try dsimp only at H
    have A17:=Aside0.mk A170
    clear A170
    by_cases c18:((t356 == 5) == t378)=true
    ·rw [if_pos c18] at H
     have c18b0:((t356 == 5) == t378)=true:=c18
     (try (have c18b1:decide ((t356 == 5)=t378)=true:=by simpa using c18))
     (try (have c18b2:((t356 == 5) == t378)=true:=by simpa using c18))
     clear c18
     replace H:=Option.bind_eq_some_iff.mp H
     obtain ⟨t379,A190,H⟩:=H
     try dsimp only at H
     have A19:=Aside0.mk A190
     clear A190
     obtain rfl:=Option.some.inj H
     go_enter Tryd.func4,Tryd.ntmps4
     try go_wp2_with (first|((with_reducible refine gate_callee (f:=14) rfl ?_);refine goesL_ (some 11) rfl rfl Tryd.func14 (by kernel_rfl) rfl #[.slice A0 l0.length c0] rfl qz4 ?_;(with_reducible refine (spec_DrawGoalOk.calls k _ _ l0 t356 t357 t360 t363 _ ?side1 ?side2 A3.out).mono ?_);(case side1=>exact qz50);(case side2=>exact HC0.out);rintro e w20 ⟨v358,v361,v364,rfl,ho0,ho1,ho2,hb⟩;refine ⟨_,rfl,?_⟩;have n0_:=Aside0.mk (Kd.R_lower ho0 (below_size qz6));have n1_:=Aside0.mk (Kd.R_lower ho1 (below_size qz6));have n2_:=Aside0.mk (Kd.R_lower ho2 (below_size qz6));have n3_:=Aside0.mk (below_step qz6 hb);clear HB;have HO359:=n0_;have HO362:=n1_;have HO365:=n2_;have HB:=n3_;clear n0_ n1_ n2_ n3_;(try clear hb);(try clear hb2);(try clear hk);(try clear hi);(try clear ho0);(try clear ho1);(try clear ho2))|((with_reducible refine gate_dst (N:=3) rfl ?_);refine box_event ?hg (N:=3) ?hd (cs:=#[.int .i64 0,.slice none 0 0,.slice none 0 0,.slice none 0 0]) (t:=42) ?hr ?_;(case hd=>rfl);(case hg=>rfl);(case hr=>first|(go_simp;done)|(go_simp;rfl));intro gb366 hg w21 hbox hb;have n0_:=Aside0.mk (Kd.R_below qz41 hb);have n1_:=Aside0.mk (Kd.R_below qz40 hb);have n2_:=Aside0.mk (Kd.R_below qz39 hb);have n3_:=Aside0.mk (below_step qz6 hb);have n4_:=Aside0.mk (hbox);have n5_:=Aside0.mk ((by rw [hg];exact (below_size qz6):w.heap.size≤gb366));have n6_:=Aside0.mk ((by rw [hg];exact (below_size qz6):w.heap.size≤gb366));clear HO359 HO362 HO365 HB;have HO359:=n0_;have HO362:=n1_;have HO365:=n2_;have HB:=n3_;have BK366:=n4_;have GW366:=n5_;have GE366:=n6_;clear n0_ n1_ n2_ n3_ n4_ n5_ n6_ hb hbox hg;have hcz22_0:w21.cell? ⟨gb366,0,none⟩=some (.int .i64 0):=(blk_cell BK366.out 0).trans rfl;have hcz22_1:w21.cell? ⟨gb366,1,none⟩=some (.slice none 0 0):=(blk_cell BK366.out 1).trans rfl;have hcz22_2:w21.cell? ⟨gb366,2,none⟩=some (.slice none 0 0):=(blk_cell BK366.out 2).trans rfl;have hcz22_3:w21.cell? ⟨gb366,3,none⟩=some (.slice none 0 0):=(blk_cell BK366.out 3).trans rfl;have hfz22_0:=blk_frozen BK366.out 0;have hfz22_1:=blk_frozen BK366.out 1;have hfz22_2:=blk_frozen BK366.out 2;have hfz22_3:=blk_frozen BK366.out 3;obtain ⟨Ao23,co23,eo23⟩:=Kd.R_slice HO359.out;subst eo23;obtain ⟨Ao24,co24,eo24⟩:=Kd.R_slice HO362.out;subst eo24;obtain ⟨Ao25,co25,eo25⟩:=Kd.R_slice HO365.out;subst eo25)|((with_reducible refine gate_callee (f:=15) rfl ?_);refine goesL_ (some 13) rfl rfl Tryd.func15 (by kernel_rfl) rfl #[.agg #[.int .i64 t356,.slice Ao23 t357.length co23,.slice Ao24 t360.length co24,.slice Ao25 t363.length co25]] rfl qz4 ?_;(with_reducible refine (impl_GoalOk.calls t356 _ _ t357 _ _ t360 _ _ t363 true _ ?side1 ?side2 ?side3 ?side4 ?side5 ?side6 A4.out).mono ?_);(case side1=>refine (Kd.R_reads' (e:=47) (base:=w.heap.size) (ok:=fun k_=>(some k_≠(.slice Ao24 t360.length co24:Value).ownBlock∧some k_≠(.slice Ao25 t363.length co25:Value).ownBlock)) (n:=t357.length) (c:=co23) ?_).2.2;exact qz95);(case side2=>exact (Kd.R_reads' HO359.out).2.1);(case side3=>refine (Kd.R_reads' (e:=47) (base:=w.heap.size) (ok:=fun k_=>(some k_≠(.slice Ao23 t357.length co23:Value).ownBlock∧some k_≠(.slice Ao25 t363.length co25:Value).ownBlock)) (n:=t360.length) (c:=co24) ?_).2.2;exact qz91);(case side4=>exact (Kd.R_reads' HO362.out).2.1);(case side5=>refine (Kd.R_reads' (e:=47) (base:=w.heap.size) (ok:=fun k_=>(some k_≠(.slice Ao23 t357.length co23:Value).ownBlock∧some k_≠(.slice Ao24 t360.length co24:Value).ownBlock)) (n:=t363.length) (c:=co25) ?_).2.2;exact qz87);(case side6=>exact (Kd.R_reads' HO365.out).2.1);rintro e w26 ⟨rfl,hb⟩;refine ⟨_,rfl,?_⟩;have n0_:=Aside0.mk (Kd.R_below qz95 hb);have n1_:=Aside0.mk (Kd.R_below qz91 hb);have n2_:=Aside0.mk (Kd.R_below qz87 hb);have n3_:=Aside0.mk (blk_below (g:=gb366) (o:=.cells #[.int .i64 t356,.slice Ao23 t357.length co23,.slice Ao24 t360.length co24,.slice Ao25 t363.length co25] 42 (0,0)) (by (with_reducible repeat (first|refine blk_drewN ?_ _|refine blk_drew ?_|refine blk_alloc ?_ _));refine blk_put (cs:=#[.int .i64 t356,.slice Ao23 t357.length co23,.slice Ao24 t360.length co24,.slice none 0 0]) ?_ 3 _ rfl;(with_reducible repeat (first|refine blk_drewN ?_ _|refine blk_drew ?_|refine blk_alloc ?_ _));refine blk_put (cs:=#[.int .i64 t356,.slice Ao23 t357.length co23,.slice none 0 0,.slice none 0 0]) ?_ 2 _ rfl;(with_reducible repeat (first|refine blk_drewN ?_ _|refine blk_drew ?_|refine blk_alloc ?_ _));refine blk_put (cs:=#[.int .i64 t356,.slice none 0 0,.slice none 0 0,.slice none 0 0]) ?_ 1 _ rfl;(with_reducible repeat (first|refine blk_drewN ?_ _|refine blk_drew ?_|refine blk_alloc ?_ _));refine blk_put (cs:=#[.int .i64 0,.slice none 0 0,.slice none 0 0,.slice none 0 0]) ?_ 0 _ rfl;(with_reducible repeat (first|refine blk_drewN ?_ _|refine blk_drew ?_|refine blk_alloc ?_ _));exact BK366.out) hb);have n4_:=Aside0.mk (below_step qz18 hb);clear HO359 HO362 HO365 BK366 HB;have HO359:=n0_;have HO362:=n1_;have HO365:=n2_;have BK366:=n3_;have HB:=n4_;clear n0_ n1_ n2_ n3_ n4_;(try clear hb);(try clear hb2);(try clear hk);(try clear hi);have hcz27_0:w26.cell? ⟨gb366,0,none⟩=some (.int .i64 t356):=(blk_cell BK366.out 0).trans rfl;have hcz27_1:w26.cell? ⟨gb366,1,none⟩=some (.slice Ao23 t357.length co23):=(blk_cell BK366.out 1).trans rfl;have hcz27_2:w26.cell? ⟨gb366,2,none⟩=some (.slice Ao24 t360.length co24):=(blk_cell BK366.out 2).trans rfl;have hcz27_3:w26.cell? ⟨gb366,3,none⟩=some (.slice Ao25 t363.length co25):=(blk_cell BK366.out 3).trans rfl;have hfz27_0:=blk_frozen BK366.out 0;have hfz27_1:=blk_frozen BK366.out 1;have hfz27_2:=blk_frozen BK366.out 2;have hfz27_3:=blk_frozen BK366.out 3)|((with_reducible refine gate_callee (f:=16) rfl ?_);refine goesL_ (some 16) rfl rfl Tryd.func16 (by kernel_rfl) rfl #[.agg #[.int .i64 t356,.slice Ao23 t357.length co23,.slice Ao24 t360.length co24,.slice Ao25 t363.length co25]] rfl qz4 ?_;(with_reducible refine (spec_GoalOk.calls k t356 _ _ t357 _ _ t360 _ _ t363 t368 _ ?side1 ?side2 ?side3 ?side4 ?side5 ?side6 A5.out).mono ?_);(case side1=>exact qz51);(case side2=>exact (Kd.R_reads' HO359.out).2.1);(case side3=>exact qz47);(case side4=>exact (Kd.R_reads' HO362.out).2.1);(case side5=>exact qz61);(case side6=>exact (Kd.R_reads' HO365.out).2.1);rintro e w28 ⟨rfl,hb⟩;refine ⟨_,rfl,?_⟩;have n0_:=Aside0.mk (Kd.R_below qz41 hb);have n1_:=Aside0.mk (Kd.R_below qz40 hb);have n2_:=Aside0.mk (Kd.R_below qz39 hb);have n3_:=Aside0.mk (blk_below (g:=gb366) (o:=.cells #[.int .i64 t356,.slice Ao23 t357.length co23,.slice Ao24 t360.length co24,.slice Ao25 t363.length co25] 42 (0,0)) qz36 hb);have n4_:=Aside0.mk (below_step qz18 hb);clear HO359 HO362 HO365 BK366 HB;have HO359:=n0_;have HO362:=n1_;have HO365:=n2_;have BK366:=n3_;have HB:=n4_;clear n0_ n1_ n2_ n3_ n4_;(try clear hb);(try clear hb2);(try clear hk);(try clear hi);have hcz29_0:w28.cell? ⟨gb366,0,none⟩=some (.int .i64 t356):=(blk_cell BK366.out 0).trans rfl;have hcz29_1:w28.cell? ⟨gb366,1,none⟩=some (.slice Ao23 t357.length co23):=(blk_cell BK366.out 1).trans rfl;have hcz29_2:w28.cell? ⟨gb366,2,none⟩=some (.slice Ao24 t360.length co24):=(blk_cell BK366.out 2).trans rfl;have hcz29_3:w28.cell? ⟨gb366,3,none⟩=some (.slice Ao25 t363.length co25):=(blk_cell BK366.out 3).trans rfl;have hfz29_0:=blk_frozen BK366.out 0;have hfz29_1:=blk_frozen BK366.out 1;have hfz29_2:=blk_frozen BK366.out 2;have hfz29_3:=blk_frozen BK366.out 3)|((with_reducible refine gate_dst (N:=5) rfl ?_);refine box_event ?hg (N:=5) ?hd (cs:=#[.int .i64 0,.slice none 0 0,.slice none 0 0,.slice none 0 0]) (t:=42) ?hr ?_;(case hd=>rfl);(case hg=>rfl);(case hr=>first|(go_simp;done)|(go_simp;rfl));intro gb370 hg w30 hbox hb;have n0_:=Aside0.mk (Kd.R_below qz41 hb);have n1_:=Aside0.mk (Kd.R_below qz40 hb);have n2_:=Aside0.mk (Kd.R_below qz39 hb);have n3_:=Aside0.mk (blk_below (g:=gb366) (o:=.cells #[.int .i64 t356,.slice Ao23 t357.length co23,.slice Ao24 t360.length co24,.slice Ao25 t363.length co25] 42 (0,0)) qz36 hb);have n4_:=Aside0.mk (below_step qz18 hb);have n5_:=Aside0.mk (hbox);have n6_:=Aside0.mk ((by rw [hg];exact (below_size qz18):w.heap.size≤gb370));have n7_:=Aside0.mk ((by rw [hg];exact (below_size qz18):w.heap.size≤gb370));have n8_:=Aside0.mk ((by rw [hg];exact Nat.ne_of_lt (blk_lt (g:=gb366) (o:=.cells #[.int .i64 t356,.slice Ao23 t357.length co23,.slice Ao24 t360.length co24,.slice Ao25 t363.length co25] 42 (0,0)) qz36):gb366≠gb370));have n9_:=Aside0.mk ((by rw [hg];exact Nat.ne_of_gt (blk_lt (g:=gb366) (o:=.cells #[.int .i64 t356,.slice Ao23 t357.length co23,.slice Ao24 t360.length co24,.slice Ao25 t363.length co25] 42 (0,0)) qz36):gb370≠gb366));clear HO359 HO362 HO365 BK366 HB;have HO359:=n0_;have HO362:=n1_;have HO365:=n2_;have BK366:=n3_;have HB:=n4_;have BK370:=n5_;have GW370:=n6_;have GE370:=n7_;have NB366_370:=n8_;have NB370_366:=n9_;clear n0_ n1_ n2_ n3_ n4_ n5_ n6_ n7_ n8_ n9_ hb hbox hg;have hnb31:=NB370_366.out;have hnc31:=NB366_370.out;have hcz32_0:w30.cell? ⟨gb370,0,none⟩=some (.int .i64 0):=(blk_cell BK370.out 0).trans rfl;have hcz32_1:w30.cell? ⟨gb370,1,none⟩=some (.slice none 0 0):=(blk_cell BK370.out 1).trans rfl;have hcz32_2:w30.cell? ⟨gb370,2,none⟩=some (.slice none 0 0):=(blk_cell BK370.out 2).trans rfl;have hcz32_3:w30.cell? ⟨gb370,3,none⟩=some (.slice none 0 0):=(blk_cell BK370.out 3).trans rfl;have hfz32_0:=blk_frozen BK370.out 0;have hfz32_1:=blk_frozen BK370.out 1;have hfz32_2:=blk_frozen BK370.out 2;have hfz32_3:=blk_frozen BK370.out 3)|((with_reducible refine gate_dst (N:=23) rfl ?_);refine Kd.R_lit k47 _ 47 ?hg (N:=23) ?hd (xs:=([(⟨2,0,(⟨#[]⟩:ByteArray)⟩:S47)]:List (S47))) (inner:=[.int .i64 2,.int .i64 0,.string (⟨#[]⟩:ByteArray)]) (ok:=fun _=>True) (okp:=fun _=>True) ?hr ?hp (fun _ hk=>hk) trivial (Below.refl _ _) (Nat.le_refl _) (by simp) ?_;(case hd=>rfl);(case hg=>rfl);(case hr=>first|(go_simp;done)|(go_simp;rfl));(case hp=>exact (Reps.c3 (show Kd.M k47 _ _ _ (⟨2,0,(⟨#[]⟩:ByteArray)⟩:S47) [.int .i64 2,.int .i64 0,.string (⟨#[]⟩:ByteArray)] from (k47_mkM _ _ _ (⟨2,0,(⟨#[]⟩:ByteArray)⟩:S47) )) (Reps.none _ _)));intro v372 w33 ho34 hb hg_ hnew_;clear hg_ hnew_;(first|rw [← Ny371.out] at ho34|(simp only [Int.reduceToNat] at ho34;rw [← Ny371.out] at ho34));have n0_:=Aside0.mk (Kd.R_elder' qz84 (Kd.R_base ho34) hb);have n1_:=Aside0.mk (Kd.R_elder' qz82 (Kd.R_base ho34) hb);have n2_:=Aside0.mk (Kd.R_elder' qz80 (Kd.R_base ho34) hb);have n3_:=Aside0.mk (Kd.R_lower (Kd.R_new' (Kd.R_new' (Kd.R_new' ho34 (Kd.R_lt qz84)) (Kd.R_lt qz82)) (Kd.R_lt qz80)) (below_size qz32));have n4_:=Aside0.mk (blk_below (g:=gb366) (o:=.cells #[.int .i64 t356,.slice Ao23 t357.length co23,.slice Ao24 t360.length co24,.slice Ao25 t363.length co25] 42 (0,0)) qz65 hb);have n5_:=Aside0.mk (blk_below (g:=gb370) (o:=.cells #[.int .i64 t356,.slice Ao23 t357.length co23,.slice Ao24 t360.length co24,.slice Ao25 t363.length co25] 42 (0,0)) (by (with_reducible repeat (first|refine blk_drewN ?_ _|refine blk_drew ?_|refine blk_alloc ?_ _));refine blk_put (cs:=#[.int .i64 t356,.slice Ao23 t357.length co23,.slice Ao24 t360.length co24,.slice none 0 0]) ?_ 3 _ rfl;(with_reducible repeat (first|refine blk_drewN ?_ _|refine blk_drew ?_|refine blk_alloc ?_ _));refine blk_put (cs:=#[.int .i64 t356,.slice Ao23 t357.length co23,.slice none 0 0,.slice none 0 0]) ?_ 2 _ rfl;(with_reducible repeat (first|refine blk_drewN ?_ _|refine blk_drew ?_|refine blk_alloc ?_ _));refine blk_put (cs:=#[.int .i64 t356,.slice none 0 0,.slice none 0 0,.slice none 0 0]) ?_ 1 _ rfl;(with_reducible repeat (first|refine blk_drewN ?_ _|refine blk_drew ?_|refine blk_alloc ?_ _));refine blk_put (cs:=#[.int .i64 0,.slice none 0 0,.slice none 0 0,.slice none 0 0]) ?_ 0 _ rfl;(with_reducible repeat (first|refine blk_drewN ?_ _|refine blk_drew ?_|refine blk_alloc ?_ _));exact BK370.out) hb);have n6_:=Aside0.mk (below_step qz32 hb);clear HO359 HO362 HO365 BK366 BK370 HB;have HO359:=n0_;have HO362:=n1_;have HO365:=n2_;have HO373:=n3_;have BK366:=n4_;have BK370:=n5_;have HB:=n6_;clear n0_ n1_ n2_ n3_ n4_ n5_ n6_ hb ho34;obtain ⟨Ao35,co35,eo35⟩:=Kd.R_slice HO373.out;subst eo35;have hcz36_0:w33.cell? ⟨gb370,0,none⟩=some (.int .i64 t356):=(blk_cell BK370.out 0).trans rfl;have hcz36_1:w33.cell? ⟨gb370,1,none⟩=some (.slice Ao23 t357.length co23):=(blk_cell BK370.out 1).trans rfl;have hcz36_2:w33.cell? ⟨gb370,2,none⟩=some (.slice Ao24 t360.length co24):=(blk_cell BK370.out 2).trans rfl;have hcz36_3:w33.cell? ⟨gb370,3,none⟩=some (.slice Ao25 t363.length co25):=(blk_cell BK370.out 3).trans rfl;have hfz36_0:=blk_frozen BK370.out 0;have hfz36_1:=blk_frozen BK370.out 1;have hfz36_2:=blk_frozen BK370.out 2;have hfz36_3:=blk_frozen BK370.out 3;have hcz37_0:w33.cell? ⟨gb366,0,none⟩=some (.int .i64 t356):=(blk_cell BK366.out 0).trans rfl;have hcz37_1:w33.cell? ⟨gb366,1,none⟩=some (.slice Ao23 t357.length co23):=(blk_cell BK366.out 1).trans rfl;have hcz37_2:w33.cell? ⟨gb366,2,none⟩=some (.slice Ao24 t360.length co24):=(blk_cell BK366.out 2).trans rfl;have hcz37_3:w33.cell? ⟨gb366,3,none⟩=some (.slice Ao25 t363.length co25):=(blk_cell BK366.out 3).trans rfl;have hfz37_0:=blk_frozen BK366.out 0;have hfz37_1:=blk_frozen BK366.out 1;have hfz37_2:=blk_frozen BK366.out 2;have hfz37_3:=blk_frozen BK366.out 3)|((with_reducible refine gate_dst (N:=6) rfl ?_);refine box_event ?hg (N:=6) ?hd (cs:=#[.int .i64 0,.slice none 0 0,.slice none 0 0,.slice none 0 0]) (t:=42) ?hr ?_;(case hd=>rfl);(case hg=>rfl);(case hr=>first|(go_simp;done)|(go_simp;rfl));intro gb374 hg w38 hbox hb;have n0_:=Aside0.mk (Kd.R_below (by (with_reducible repeat (first|apply Kd.R_alloc|apply Kd.R_drewN|apply Kd.R_drew));exact (Kd.R_mono (Kd.R_far (p:=⟨gb370,3,none⟩) (Kd.R_types HO359.out BK370.out (by decide)) (fun _ hk=>hk.2) (.slice Ao35 y371.length co35)) (fun _ h_=>h_.1))) hb);have n1_:=Aside0.mk (Kd.R_below (by (with_reducible repeat (first|apply Kd.R_alloc|apply Kd.R_drewN|apply Kd.R_drew));exact (Kd.R_mono (Kd.R_far (p:=⟨gb370,3,none⟩) (Kd.R_types HO362.out BK370.out (by decide)) (fun _ hk=>hk.2) (.slice Ao35 y371.length co35)) (fun _ h_=>h_.1))) hb);have n2_:=Aside0.mk (Kd.R_below (by (with_reducible repeat (first|apply Kd.R_alloc|apply Kd.R_drewN|apply Kd.R_drew));exact (Kd.R_mono (Kd.R_far (p:=⟨gb370,3,none⟩) (Kd.R_types HO365.out BK370.out (by decide)) (fun _ hk=>hk.2) (.slice Ao35 y371.length co35)) (fun _ h_=>h_.1))) hb);have n3_:=Aside0.mk (Kd.R_below (by (with_reducible repeat (first|apply Kd.R_alloc|apply Kd.R_drewN|apply Kd.R_drew));exact (Kd.R_mono (Kd.R_far (p:=⟨gb370,3,none⟩) (Kd.R_types HO373.out BK370.out (by decide)) (fun _ hk=>hk.2) (.slice Ao35 y371.length co35)) (fun _ h_=>h_.1))) hb);have n4_:=Aside0.mk (blk_below (g:=gb366) (o:=.cells #[.int .i64 t356,.slice Ao23 t357.length co23,.slice Ao24 t360.length co24,.slice Ao25 t363.length co25] 42 (0,0)) qz42 hb);have n5_:=Aside0.mk (blk_below (g:=gb370) (o:=.cells #[.int .i64 t356,.slice Ao23 t357.length co23,.slice Ao24 t360.length co24,.slice Ao35 y371.length co35] 42 (0,0)) qz58 hb);have n6_:=Aside0.mk (below_step qz32 hb);have n7_:=Aside0.mk (hbox);have n8_:=Aside0.mk ((by rw [hg];exact (below_size qz32):w.heap.size≤gb374));have n9_:=Aside0.mk ((by rw [hg];exact (below_size qz32):w.heap.size≤gb374));have n10_:=Aside0.mk ((by rw [hg];exact Nat.ne_of_lt (blk_lt (g:=gb366) (o:=.cells #[.int .i64 t356,.slice Ao23 t357.length co23,.slice Ao24 t360.length co24,.slice Ao25 t363.length co25] 42 (0,0)) qz42):gb366≠gb374));have n11_:=Aside0.mk ((by rw [hg];exact Nat.ne_of_gt (blk_lt (g:=gb366) (o:=.cells #[.int .i64 t356,.slice Ao23 t357.length co23,.slice Ao24 t360.length co24,.slice Ao25 t363.length co25] 42 (0,0)) qz42):gb374≠gb366));have n12_:=Aside0.mk ((by rw [hg];exact Nat.ne_of_lt (blk_lt (g:=gb370) (o:=.cells #[.int .i64 t356,.slice Ao23 t357.length co23,.slice Ao24 t360.length co24,.slice Ao35 y371.length co35] 42 (0,0)) qz58):gb370≠gb374));have n13_:=Aside0.mk ((by rw [hg];exact Nat.ne_of_gt (blk_lt (g:=gb370) (o:=.cells #[.int .i64 t356,.slice Ao23 t357.length co23,.slice Ao24 t360.length co24,.slice Ao35 y371.length co35] 42 (0,0)) qz58):gb374≠gb370));clear HO359 HO362 HO365 HO373 BK366 BK370 HB;have HO359:=n0_;have HO362:=n1_;have HO365:=n2_;have HO373:=n3_;have BK366:=n4_;have BK370:=n5_;have HB:=n6_;have BK374:=n7_;have GW374:=n8_;have GE374:=n9_;have NB366_374:=n10_;have NB374_366:=n11_;have NB370_374:=n12_;have NB374_370:=n13_;clear n0_ n1_ n2_ n3_ n4_ n5_ n6_ n7_ n8_ n9_ n10_ n11_ n12_ n13_ hb hbox hg;have hnb39:=NB374_366.out;have hnc39:=NB366_374.out;have hnb40:=NB374_370.out;have hnc40:=NB370_374.out;have hcz41_0:w38.cell? ⟨gb374,0,none⟩=some (.int .i64 0):=(blk_cell BK374.out 0).trans rfl;have hcz41_1:w38.cell? ⟨gb374,1,none⟩=some (.slice none 0 0):=(blk_cell BK374.out 1).trans rfl;have hcz41_2:w38.cell? ⟨gb374,2,none⟩=some (.slice none 0 0):=(blk_cell BK374.out 2).trans rfl;have hcz41_3:w38.cell? ⟨gb374,3,none⟩=some (.slice none 0 0):=(blk_cell BK374.out 3).trans rfl;have hfz41_0:=blk_frozen BK374.out 0;have hfz41_1:=blk_frozen BK374.out 1;have hfz41_2:=blk_frozen BK374.out 2;have hfz41_3:=blk_frozen BK374.out 3)|((with_reducible refine gate_dst (N:=26) rfl ?_);refine Kd.R_lit k47 _ 47 ?hg (N:=26) ?hd (xs:=([]:List (S47))) (inner:=[]) (ok:=fun _=>True) (okp:=fun _=>True) ?hr ?hp (fun _ hk=>hk) trivial (Below.refl _ _) (Nat.le_refl _) (by simp) ?_;(case hd=>rfl);(case hg=>rfl);(case hr=>first|(go_simp;done)|(go_simp;rfl));(case hp=>exact (Reps.none _ _));intro v376 w42 ho43 hb hg_ hnew_;clear hg_ hnew_;(first|rw [← Ny375.out] at ho43|(simp only [Int.reduceToNat] at ho43;rw [← Ny375.out] at ho43));have n0_:=Aside0.mk (Kd.R_elder' qz78 (Kd.R_base ho43) hb);have n1_:=Aside0.mk (Kd.R_elder' qz76 (Kd.R_base ho43) hb);have n2_:=Aside0.mk (Kd.R_elder' qz74 (Kd.R_base ho43) hb);have n3_:=Aside0.mk (Kd.R_elder' qz72 (Kd.R_base ho43) hb);have n4_:=Aside0.mk (Kd.R_lower (Kd.R_new' (Kd.R_new' (Kd.R_new' (Kd.R_new' ho43 (Kd.R_lt qz78)) (Kd.R_lt qz76)) (Kd.R_lt qz74)) (Kd.R_lt qz72)) (below_size qz22));have n5_:=Aside0.mk (blk_below (g:=gb366) (o:=.cells #[.int .i64 t356,.slice Ao23 t357.length co23,.slice Ao24 t360.length co24,.slice Ao25 t363.length co25] 42 (0,0)) qz64 hb);have n6_:=Aside0.mk (blk_below (g:=gb370) (o:=.cells #[.int .i64 t356,.slice Ao23 t357.length co23,.slice Ao24 t360.length co24,.slice Ao35 y371.length co35] 42 (0,0)) qz63 hb);have n7_:=Aside0.mk (blk_below (g:=gb374) (o:=.cells #[.int .i64 t356,.slice Ao23 t357.length co23,.slice Ao24 t360.length co24,.slice Ao25 t363.length co25] 42 (0,0)) (by (with_reducible repeat (first|refine blk_drewN ?_ _|refine blk_drew ?_|refine blk_alloc ?_ _));refine blk_put (cs:=#[.int .i64 t356,.slice Ao23 t357.length co23,.slice Ao24 t360.length co24,.slice none 0 0]) ?_ 3 _ rfl;(with_reducible repeat (first|refine blk_drewN ?_ _|refine blk_drew ?_|refine blk_alloc ?_ _));refine blk_put (cs:=#[.int .i64 t356,.slice Ao23 t357.length co23,.slice none 0 0,.slice none 0 0]) ?_ 2 _ rfl;(with_reducible repeat (first|refine blk_drewN ?_ _|refine blk_drew ?_|refine blk_alloc ?_ _));refine blk_put (cs:=#[.int .i64 t356,.slice none 0 0,.slice none 0 0,.slice none 0 0]) ?_ 1 _ rfl;(with_reducible repeat (first|refine blk_drewN ?_ _|refine blk_drew ?_|refine blk_alloc ?_ _));refine blk_put (cs:=#[.int .i64 0,.slice none 0 0,.slice none 0 0,.slice none 0 0]) ?_ 0 _ rfl;(with_reducible repeat (first|refine blk_drewN ?_ _|refine blk_drew ?_|refine blk_alloc ?_ _));exact BK374.out) hb);have n8_:=Aside0.mk (below_step qz22 hb);clear HO359 HO362 HO365 HO373 BK366 BK370 BK374 HB;have HO359:=n0_;have HO362:=n1_;have HO365:=n2_;have HO373:=n3_;have HO377:=n4_;have BK366:=n5_;have BK370:=n6_;have BK374:=n7_;have HB:=n8_;clear n0_ n1_ n2_ n3_ n4_ n5_ n6_ n7_ n8_ hb ho43;obtain ⟨Ao44,co44,eo44⟩:=Kd.R_slice HO377.out;subst eo44;have hcz45_0:w42.cell? ⟨gb374,0,none⟩=some (.int .i64 t356):=(blk_cell BK374.out 0).trans rfl;have hcz45_1:w42.cell? ⟨gb374,1,none⟩=some (.slice Ao23 t357.length co23):=(blk_cell BK374.out 1).trans rfl;have hcz45_2:w42.cell? ⟨gb374,2,none⟩=some (.slice Ao24 t360.length co24):=(blk_cell BK374.out 2).trans rfl;have hcz45_3:w42.cell? ⟨gb374,3,none⟩=some (.slice Ao25 t363.length co25):=(blk_cell BK374.out 3).trans rfl;have hfz45_0:=blk_frozen BK374.out 0;have hfz45_1:=blk_frozen BK374.out 1;have hfz45_2:=blk_frozen BK374.out 2;have hfz45_3:=blk_frozen BK374.out 3))
     have n0_:Aside0 (Kd.R k47 47 (w42.setCell ⟨gb374,1,none⟩ (.slice Ao44 y375.length co44)) w.heap.size (fun k_=>some k_≠(.slice Ao24 t360.length co24:Value).ownBlock∧some k_≠(.slice Ao25 t363.length co25:Value).ownBlock∧some k_≠(.slice Ao35 y371.length co35:Value).ownBlock∧some k_≠(.slice Ao44 y375.length co44:Value).ownBlock) (.slice Ao23 t357.length co23) t357):=⟨by (with_reducible repeat (first|apply Kd.R_alloc|apply Kd.R_drewN|apply Kd.R_drew));exact Kd.R_mono (Kd.R_far (p:=⟨gb374,1,none⟩) (Kd.R_types HO359.out BK374.out (by decide)) (fun _ hk=>hk.2) (.slice Ao44 y375.length co44)) (fun _ hk=>⟨hk.1.1.1.1,⟨hk.1.1.1.2,⟨hk.1.1.2,hk.1.2⟩⟩⟩)⟩
     have n1_:Aside0 (Kd.R k47 47 (w42.setCell ⟨gb374,1,none⟩ (.slice Ao44 y375.length co44)) w.heap.size (fun k_=>some k_≠(.slice Ao23 t357.length co23:Value).ownBlock∧some k_≠(.slice Ao25 t363.length co25:Value).ownBlock∧some k_≠(.slice Ao35 y371.length co35:Value).ownBlock∧some k_≠(.slice Ao44 y375.length co44:Value).ownBlock) (.slice Ao24 t360.length co24) t360):=⟨by (with_reducible repeat (first|apply Kd.R_alloc|apply Kd.R_drewN|apply Kd.R_drew));exact Kd.R_mono (Kd.R_far (p:=⟨gb374,1,none⟩) (Kd.R_types HO362.out BK374.out (by decide)) (fun _ hk=>hk.2) (.slice Ao44 y375.length co44)) (fun _ hk=>⟨hk.1.1.1.1,⟨hk.1.1.1.2,⟨hk.1.1.2,hk.1.2⟩⟩⟩)⟩
     have n2_:Aside0 (Kd.R k47 47 (w42.setCell ⟨gb374,1,none⟩ (.slice Ao44 y375.length co44)) w.heap.size (fun k_=>some k_≠(.slice Ao23 t357.length co23:Value).ownBlock∧some k_≠(.slice Ao24 t360.length co24:Value).ownBlock∧some k_≠(.slice Ao35 y371.length co35:Value).ownBlock∧some k_≠(.slice Ao44 y375.length co44:Value).ownBlock) (.slice Ao25 t363.length co25) t363):=⟨by (with_reducible repeat (first|apply Kd.R_alloc|apply Kd.R_drewN|apply Kd.R_drew));exact Kd.R_mono (Kd.R_far (p:=⟨gb374,1,none⟩) (Kd.R_types HO365.out BK374.out (by decide)) (fun _ hk=>hk.2) (.slice Ao44 y375.length co44)) (fun _ hk=>⟨hk.1.1.1.1,⟨hk.1.1.1.2,⟨hk.1.1.2,hk.1.2⟩⟩⟩)⟩
     have n3_:Aside0 (Kd.R k47 47 (w42.setCell ⟨gb374,1,none⟩ (.slice Ao44 y375.length co44)) w.heap.size (fun k_=>some k_≠(.slice Ao23 t357.length co23:Value).ownBlock∧some k_≠(.slice Ao24 t360.length co24:Value).ownBlock∧some k_≠(.slice Ao25 t363.length co25:Value).ownBlock∧some k_≠(.slice Ao44 y375.length co44:Value).ownBlock) (.slice Ao35 y371.length co35) y371):=⟨by (with_reducible repeat (first|apply Kd.R_alloc|apply Kd.R_drewN|apply Kd.R_drew));exact Kd.R_mono (Kd.R_far (p:=⟨gb374,1,none⟩) (Kd.R_types HO373.out BK374.out (by decide)) (fun _ hk=>hk.2) (.slice Ao44 y375.length co44)) (fun _ hk=>⟨hk.1.1.1.1.2,⟨hk.1.1.1.2,⟨hk.1.1.2,hk.1.2⟩⟩⟩)⟩
     have n4_:Aside0 (Kd.R k47 47 (w42.setCell ⟨gb374,1,none⟩ (.slice Ao44 y375.length co44)) w.heap.size (fun k_=>some k_≠(.slice Ao23 t357.length co23:Value).ownBlock∧some k_≠(.slice Ao24 t360.length co24:Value).ownBlock∧some k_≠(.slice Ao25 t363.length co25:Value).ownBlock∧some k_≠(.slice Ao35 y371.length co35:Value).ownBlock) (.slice Ao44 y375.length co44) y375):=⟨by (with_reducible repeat (first|apply Kd.R_alloc|apply Kd.R_drewN|apply Kd.R_drew));exact Kd.R_mono (Kd.R_far (p:=⟨gb374,1,none⟩) (Kd.R_types HO377.out BK374.out (by decide)) (fun _ hk=>hk.2) (.slice Ao44 y375.length co44)) (fun _ hk=>⟨hk.1.1.1.1.2,⟨hk.1.1.1.2,⟨hk.1.1.2,hk.1.2⟩⟩⟩)⟩
     have n5_:Aside0 ((w42.setCell ⟨gb374,1,none⟩ (.slice Ao44 y375.length co44)).heap[gb366]?=some (.cells #[.int .i64 t356,.slice Ao23 t357.length co23,.slice Ao24 t360.length co24,.slice Ao25 t363.length co25] 42 (0,0))):=⟨qz108⟩
     have n6_:Aside0 ((w42.setCell ⟨gb374,1,none⟩ (.slice Ao44 y375.length co44)).heap[gb370]?=some (.cells #[.int .i64 t356,.slice Ao23 t357.length co23,.slice Ao24 t360.length co24,.slice Ao35 y371.length co35] 42 (0,0))):=⟨qz107⟩
     have n7_:Aside0 ((w42.setCell ⟨gb374,1,none⟩ (.slice Ao44 y375.length co44)).heap[gb374]?=some (.cells #[.int .i64 t356,.slice Ao44 y375.length co44,.slice Ao24 t360.length co24,.slice Ao25 t363.length co25] 42 (0,0))):=⟨by (with_reducible repeat (first|refine blk_drewN ?_ _|refine blk_drew ?_|refine blk_alloc ?_ _));refine blk_put (cs:=#[.int .i64 t356,.slice Ao23 t357.length co23,.slice Ao24 t360.length co24,.slice Ao25 t363.length co25]) ?_ 1 _ rfl;(with_reducible repeat (first|refine blk_drewN ?_ _|refine blk_drew ?_|refine blk_alloc ?_ _));exact BK374.out⟩
     have n8_:Aside0 (Below w.heap.size w (w42.setCell ⟨gb374,1,none⟩ (.slice Ao44 y375.length co44))):=⟨qz22⟩
     (try clear HO359)
     (try clear HO362)
     (try clear HO365)
     (try clear HO373)
     (try clear HO377)
     (try clear BK366)
     (try clear BK370)
     (try clear BK374)
     (try clear HB)
     generalize (w42.setCell ⟨gb374,1,none⟩ (.slice Ao44 y375.length co44))=w46 at n0_ n1_ n2_ n3_ n4_ n5_ n6_ n7_ n8_ ⊢
     have HO359:=n0_
     have HO362:=n1_
     have HO365:=n2_
     have HO373:=n3_
     have HO377:=n4_
     have BK366:=n5_
     have BK370:=n6_
     have BK374:=n7_
     have HB:=n8_
     clear n0_ n1_ n2_ n3_ n4_ n5_ n6_ n7_ n8_
     have n0_:=Aside0.mk (Kd.R_drew HO359.out)
     have n1_:=Aside0.mk (Kd.R_drew HO362.out)
     have n2_:=Aside0.mk (Kd.R_drew HO365.out)
     have n3_:=Aside0.mk (Kd.R_drew HO373.out)
     have n4_:=Aside0.mk (Kd.R_drew HO377.out)
     have n5_:=Aside0.mk (blk_drew BK366.out)
     have n6_:=Aside0.mk (blk_drew BK370.out)
     have n7_:=Aside0.mk (blk_drew BK374.out)
     have n8_:=Aside0.mk (below_drew1 HB.out)
     clear HO359 HO362 HO365 HO373 HO377 BK366 BK370 BK374 HB
     have HO359:=n0_
     have HO362:=n1_
     have HO365:=n2_
     have HO373:=n3_
     have HO377:=n4_
     have BK366:=n5_
     have BK370:=n6_
     have BK374:=n7_
     have HB:=n8_
     clear n0_ n1_ n2_ n3_ n4_ n5_ n6_ n7_ n8_
     refine start_ (n:=15) (S:=fun w'=>w'.cell? ⟨gb366,0,none⟩=some (.int .i64 t356)∧w'.cell? ⟨gb366,1,none⟩=some (.slice Ao23 t357.length co23)∧w'.cell? ⟨gb366,2,none⟩=some (.slice Ao24 t360.length co24)∧w'.cell? ⟨gb366,3,none⟩=some (.slice Ao25 t363.length co25)∧w'.cell? ⟨gb370,0,none⟩=some (.int .i64 t356)∧w'.cell? ⟨gb370,1,none⟩=some (.slice Ao23 t357.length co23)∧w'.cell? ⟨gb370,2,none⟩=some (.slice Ao24 t360.length co24)∧w'.cell? ⟨gb370,3,none⟩=some (.slice Ao35 y371.length co35)∧w'.cell? ⟨gb374,0,none⟩=some (.int .i64 t356)∧w'.cell? ⟨gb374,1,none⟩=some (.slice Ao44 y375.length co44)∧w'.cell? ⟨gb374,2,none⟩=some (.slice Ao24 t360.length co24)∧w'.cell? ⟨gb374,3,none⟩=some (.slice Ao25 t363.length co25)) (ds:=[]) #[false,false,false,false,false,false,false,false,false,false,false,false,false,false,false] (by kernel_rfl) rfl rfl ⟨(blk_cell BK366.out 0).trans rfl,(blk_cell BK366.out 1).trans rfl,(blk_cell BK366.out 2).trans rfl,(blk_cell BK366.out 3).trans rfl,(blk_cell BK370.out 0).trans rfl,(blk_cell BK370.out 1).trans rfl,(blk_cell BK370.out 2).trans rfl,(blk_cell BK370.out 3).trans rfl,(blk_cell BK374.out 0).trans rfl,(blk_cell BK374.out 1).trans rfl,(blk_cell BK374.out 2).trans rfl,(blk_cell BK374.out 3).trans rfl⟩ (fun hHeld=>?_);refine with_tabW laws_FnGoalOk.tab13 laws_FnGoalOk.bits13 (fun HT_ HW_=>?_)
     generalize w46.drew=w47 at HO359 HO362 HO365 HO373 HO377 BK366 BK370 BK374 HB hHeld ⊢
     refine pure_ (i:=0) (N:=some 28) (v:=?_) (a':=?_) #[true,false,false,false,false,false,false,false,false,false,false,false,false,false,false] rfl rfl (any_of HT_.out (by kernel_rfl)) (fun _ _ _ h=>h) (Or.inl ⟨by rfl,?_⟩) ?_ ?_
     rotate_left
     ·intro w'
      go_simp
      with_reducible rfl
     rotate_left
     ·simp only [Act.put,List.setIfInBounds_toArray,List.set_cons_zero,List.set_cons_succ,i64_w,i32_w]
      rfl
     refine take_ (i:=1) (N:=some 29) (v:=?_) (a':=?_) #[true,true,false,false,false,false,false,false,false,false,false,false,false,false,false] rfl rfl (take_ofW HT_.out HW_.out (by kernel_rfl)) (fun _ _ _ h=>h) (Or.inl ⟨by rfl,?_⟩) hHeld ?_ ?_
     rotate_left
     ·rintro w' ⟨s0,s1,s2,s3,s4,s5,s6,s7,s8,s9,s10,s11⟩
      go_simp
      with_reducible rfl
     rotate_left
     ·simp only [Act.put,List.setIfInBounds_toArray,List.set_cons_zero,List.set_cons_succ,i64_w,i32_w]
      rfl
     refine pure_ (i:=2) (N:=some 30) (v:=?_) (a':=?_) #[true,true,true,false,false,false,false,false,false,false,false,false,false,false,false] rfl rfl (any_of HT_.out (by kernel_rfl)) (fun _ _ _ h=>h) (Or.inl ⟨by rfl,?_⟩) ?_ ?_
     rotate_left
     ·intro w'
      go_simp
      with_reducible rfl
     rotate_left
     ·simp only [Act.put,List.setIfInBounds_toArray,List.set_cons_zero,List.set_cons_succ,i64_w,i32_w]
      rfl
     refine take_ (i:=3) (N:=some 31) (v:=?_) (a':=?_) #[true,true,true,true,false,false,false,false,false,false,false,false,false,false,false] rfl rfl (take_ofW HT_.out HW_.out (by kernel_rfl)) (fun _ _ _ h=>h) (Or.inl ⟨by rfl,?_⟩) hHeld ?_ ?_
     rotate_left
     ·rintro w' ⟨s0,s1,s2,s3,s4,s5,s6,s7,s8,s9,s10,s11⟩
      go_simp
      with_reducible rfl
     rotate_left
     ·simp only [Act.put,List.setIfInBounds_toArray,List.set_cons_zero,List.set_cons_succ,i64_w,i32_w]
      rfl
     refine one_ (i:=4) (N:=some 32) #[true,true,true,true,true,false,false,false,false,false,false,false,false,false,false] rfl rfl (one_of HT_.out (by kernel_rfl)) (by decide) (fun K hK=>?_)
     refine goes_ Tryd.func15 (by kernel_rfl) rfl #[.agg #[.int .i64 t356,.slice Ao23 t357.length co23,.slice Ao24 t360.length co24,.slice Ao35 y371.length co35]] (by rfl) rfl rfl qz4 ?_
     with_reducible refine (impl_GoalOk.calls t356 _ _ t357 _ _ t360 _ _ y371 t378 _ ?side1 ?side2 ?side3 ?side4 ?side5 ?side6 A17.out).mono ?_
     (case side1=>exact qz51)
     (case side2=>exact (Kd.R_reads' HO359.out).2.1)
     (case side3=>exact qz47)
     (case side4=>exact (Kd.R_reads' HO362.out).2.1)
     (case side5=>exact qz119)
     (case side6=>exact (Kd.R_reads' HO373.out).2.1)
     rintro e w48 ⟨rfl,hb⟩
     refine ⟨_,rfl,?_⟩
     have n0_:=Aside0.mk (Kd.R_below qz41 hb)
     have n1_:=Aside0.mk (Kd.R_below qz40 hb)
     have n2_:=Aside0.mk (Kd.R_below qz39 hb)
     have n3_:=Aside0.mk (Kd.R_below qz114 hb)
     have n4_:=Aside0.mk (Kd.R_below qz113 hb)
     have n5_:=Aside0.mk (blk_below (g:=gb366) (o:=.cells #[.int .i64 t356,.slice Ao23 t357.length co23,.slice Ao24 t360.length co24,.slice Ao25 t363.length co25] 42 (0,0)) qz36 hb)
     have n6_:=Aside0.mk (blk_below (g:=gb370) (o:=.cells #[.int .i64 t356,.slice Ao23 t357.length co23,.slice Ao24 t360.length co24,.slice Ao35 y371.length co35] 42 (0,0)) qz110 hb)
     have n7_:=Aside0.mk (blk_below (g:=gb374) (o:=.cells #[.int .i64 t356,.slice Ao44 y375.length co44,.slice Ao24 t360.length co24,.slice Ao25 t363.length co25] 42 (0,0)) qz109 hb)
     have n8_:=Aside0.mk (below_step qz22 hb)
     clear HO359 HO362 HO365 HO373 HO377 BK366 BK370 BK374 HB
     have HO359:=n0_
     have HO362:=n1_
     have HO365:=n2_
     have HO373:=n3_
     have HO377:=n4_
     have BK366:=n5_
     have BK370:=n6_
     have BK374:=n7_
     have HB:=n8_
     clear n0_ n1_ n2_ n3_ n4_ n5_ n6_ n7_ n8_
     (try clear hb)
     (try clear hb2)
     (try clear hk)
     (try clear hi)
     refine hK.out _ _ ⟨(blk_cell BK366.out 0).trans rfl,(blk_cell BK366.out 1).trans rfl,(blk_cell BK366.out 2).trans rfl,(blk_cell BK366.out 3).trans rfl,(blk_cell BK370.out 0).trans rfl,(blk_cell BK370.out 1).trans rfl,(blk_cell BK370.out 2).trans rfl,(blk_cell BK370.out 3).trans rfl,(blk_cell BK374.out 0).trans rfl,(blk_cell BK374.out 1).trans rfl,(blk_cell BK374.out 2).trans rfl,(blk_cell BK374.out 3).trans rfl⟩ (fun hHeld=>?_)
     clear hK K
     refine norm_ (a':=?_) ?_ ?_
     rotate_left
     ·show Act.put _ (some 32) _=_
      simp only [Act.put,List.setIfInBounds_toArray,List.set_cons_zero,List.set_cons_succ,i64_w,i32_w]
      rfl
     refine pure_ (i:=5) (N:=some 33) (v:=?_) (a':=?_) #[true,true,true,true,true,true,false,false,false,false,false,false,false,false,false] rfl rfl (any_of HT_.out (by kernel_rfl)) (fun _ _ _ h=>h) (Or.inl ⟨by rfl,?_⟩) ?_ ?_
     rotate_left
     ·intro w'
      go_simp
      with_reducible rfl
     rotate_left
     ·simp only [Act.put,List.setIfInBounds_toArray,List.set_cons_zero,List.set_cons_succ,i64_w,i32_w]
      rfl
     refine pure_ (i:=6) (N:=some 34) (v:=?_) (a':=?_) #[true,true,true,true,true,true,true,false,false,false,false,false,false,false,false] rfl rfl (any_of HT_.out (by kernel_rfl)) (fun _ _ _ h=>h) (Or.inl ⟨by rfl,?_⟩) ?_ ?_
     rotate_left
     ·intro w'
      go_simp
      with_reducible rfl
     rotate_left
     ·simp only [Act.put,List.setIfInBounds_toArray,List.set_cons_zero,List.set_cons_succ,i64_w,i32_w]
      rfl
     refine pure_ (i:=7) (N:=some 35) (v:=?_) (a':=?_) #[true,true,true,true,true,true,true,true,false,false,false,false,false,false,false] rfl rfl (any_of HT_.out (by kernel_rfl)) (fun _ _ _ h=>h) (Or.inl ⟨by rfl,?_⟩) ?_ ?_
     rotate_left
     ·intro w'
      go_simp
      with_reducible rfl
     rotate_left
     ·simp only [Act.put,List.setIfInBounds_toArray,List.set_cons_zero,List.set_cons_succ,i64_w,i32_w]
      rfl
     refine take_ (i:=8) (N:=some 36) (v:=?_) (a':=?_) #[true,true,true,true,true,true,true,true,true,false,false,false,false,false,false] rfl rfl (take_ofW HT_.out HW_.out (by kernel_rfl)) (fun _ _ _ h=>h) (Or.inl ⟨by rfl,?_⟩) hHeld ?_ ?_
     rotate_left
     ·rintro w' ⟨s0,s1,s2,s3,s4,s5,s6,s7,s8,s9,s10,s11⟩
      go_simp
      with_reducible rfl
     rotate_left
     ·simp only [Act.put,List.setIfInBounds_toArray,List.set_cons_zero,List.set_cons_succ,i64_w,i32_w]
      rfl
     refine pure_ (i:=9) (N:=some 37) (v:=?_) (a':=?_) #[true,true,true,true,true,true,true,true,true,true,false,false,false,false,false] rfl rfl (any_of HT_.out (by kernel_rfl)) (fun _ _ _ h=>h) (Or.inl ⟨by rfl,?_⟩) ?_ ?_
     rotate_left
     ·intro w'
      go_simp
      with_reducible rfl
     rotate_left
     ·simp only [Act.put,List.setIfInBounds_toArray,List.set_cons_zero,List.set_cons_succ,i64_w,i32_w]
      rfl
     refine take_ (i:=10) (N:=some 38) (v:=?_) (a':=?_) #[true,true,true,true,true,true,true,true,true,true,true,false,false,false,false] rfl rfl (take_ofW HT_.out HW_.out (by kernel_rfl)) (fun _ _ _ h=>h) (Or.inl ⟨by rfl,?_⟩) hHeld ?_ ?_
     rotate_left
     ·rintro w' ⟨s0,s1,s2,s3,s4,s5,s6,s7,s8,s9,s10,s11⟩
      go_simp
      with_reducible rfl
     rotate_left
     ·simp only [Act.put,List.setIfInBounds_toArray,List.set_cons_zero,List.set_cons_succ,i64_w,i32_w]
      rfl
     refine one_ (i:=11) (N:=some 39) #[true,true,true,true,true,true,true,true,true,true,true,true,false,false,false] rfl rfl (one_of HT_.out (by kernel_rfl)) (by decide) (fun K hK=>?_)
     refine goes_ Tryd.func15 (by kernel_rfl) rfl #[.agg #[.int .i64 t356,.slice Ao44 y375.length co44,.slice Ao24 t360.length co24,.slice Ao25 t363.length co25]] (by rfl) rfl rfl qz4 ?_
     with_reducible refine (impl_GoalOk.calls t356 _ _ y375 _ _ t360 _ _ t363 t379 _ ?side1 ?side2 ?side3 ?side4 ?side5 ?side6 A19.out).mono ?_
     (case side1=>repeat (first|exact (Kd.R_reads' HO377.out).2.2|(with_reducible refine Kd.C_alloc ?_ _)|(with_reducible refine Kd.C_drewN ?_ _)|(with_reducible refine Kd.C_drew ?_)))
     (case side2=>exact (Kd.R_reads' HO377.out).2.1)
     (case side3=>exact qz47)
     (case side4=>exact (Kd.R_reads' HO362.out).2.1)
     (case side5=>exact qz61)
     (case side6=>exact (Kd.R_reads' HO365.out).2.1)
     rintro e w49 ⟨rfl,hb⟩
     refine ⟨_,rfl,?_⟩
     have n0_:=Aside0.mk (Kd.R_below qz41 hb)
     have n1_:=Aside0.mk (Kd.R_below qz40 hb)
     have n2_:=Aside0.mk (Kd.R_below qz39 hb)
     have n3_:=Aside0.mk (Kd.R_below qz114 hb)
     have n4_:=Aside0.mk (Kd.R_below qz113 hb)
     have n5_:=Aside0.mk (blk_below (g:=gb366) (o:=.cells #[.int .i64 t356,.slice Ao23 t357.length co23,.slice Ao24 t360.length co24,.slice Ao25 t363.length co25] 42 (0,0)) qz36 hb)
     have n6_:=Aside0.mk (blk_below (g:=gb370) (o:=.cells #[.int .i64 t356,.slice Ao23 t357.length co23,.slice Ao24 t360.length co24,.slice Ao35 y371.length co35] 42 (0,0)) qz110 hb)
     have n7_:=Aside0.mk (blk_below (g:=gb374) (o:=.cells #[.int .i64 t356,.slice Ao44 y375.length co44,.slice Ao24 t360.length co24,.slice Ao25 t363.length co25] 42 (0,0)) qz109 hb)
     have n8_:=Aside0.mk (below_step qz22 hb)
     clear HO359 HO362 HO365 HO373 HO377 BK366 BK370 BK374 HB
     have HO359:=n0_
     have HO362:=n1_
     have HO365:=n2_
     have HO373:=n3_
     have HO377:=n4_
     have BK366:=n5_
     have BK370:=n6_
     have BK374:=n7_
     have HB:=n8_
     clear n0_ n1_ n2_ n3_ n4_ n5_ n6_ n7_ n8_
     (try clear hb)
     (try clear hb2)
     (try clear hk)
     (try clear hi)
     refine hK.out _ _ ⟨(blk_cell BK366.out 0).trans rfl,(blk_cell BK366.out 1).trans rfl,(blk_cell BK366.out 2).trans rfl,(blk_cell BK366.out 3).trans rfl,(blk_cell BK370.out 0).trans rfl,(blk_cell BK370.out 1).trans rfl,(blk_cell BK370.out 2).trans rfl,(blk_cell BK370.out 3).trans rfl,(blk_cell BK374.out 0).trans rfl,(blk_cell BK374.out 1).trans rfl,(blk_cell BK374.out 2).trans rfl,(blk_cell BK374.out 3).trans rfl⟩ (fun hHeld=>?_)
     clear hK K
     refine norm_ (a':=?_) ?_ ?_
     rotate_left
     ·show Act.put _ (some 39) _=_
      simp only [Act.put,List.setIfInBounds_toArray,List.set_cons_zero,List.set_cons_succ,i64_w,i32_w]
      rfl
     refine pure_ (i:=12) (N:=some 40) (v:=?_) (a':=?_) #[true,true,true,true,true,true,true,true,true,true,true,true,true,false,false] rfl rfl (any_of HT_.out (by kernel_rfl)) (fun _ _ _ h=>h) (Or.inl ⟨by rfl,?_⟩) ?_ ?_
     rotate_left
     ·intro w'
      go_simp
      with_reducible rfl
     rotate_left
     ·simp only [Act.put,List.setIfInBounds_toArray,List.set_cons_zero,List.set_cons_succ,i64_w,i32_w]
      rfl
     refine pure_ (i:=13) (N:=some 41) (v:=?_) (a':=?_) #[true,true,true,true,true,true,true,true,true,true,true,true,true,true,false] rfl rfl (any_of HT_.out (by kernel_rfl)) (fun _ _ _ h=>h) (Or.inl ⟨by rfl,?_⟩) ?_ ?_
     rotate_left
     ·intro w'
      go_simp
      with_reducible rfl
     rotate_left
     ·simp only [Act.put,List.setIfInBounds_toArray,List.set_cons_zero,List.set_cons_succ,i64_w,i32_w]
      rfl
     refine pure_ (i:=14) (N:=some 2) (v:=?_) (a':=?_) #[true,true,true,true,true,true,true,true,true,true,true,true,true,true,true] rfl rfl (any_of HT_.out (by kernel_rfl)) (fun _ _ _ h=>h) (Or.inl ⟨by rfl,?_⟩) ?_ ?_
     rotate_left
     ·intro w'
      go_simp
      with_reducible rfl
     rotate_left
     ·simp only [Act.put,List.setIfInBounds_toArray,List.set_cons_zero,List.set_cons_succ,i64_w,i32_w]
      rfl
     refine done_ (done_of HT_.out (by kernel_rfl)) ?_
     try go_wp2
     go_ret
     exact ⟨qz9,qz22⟩
    ·rw [if_neg c18] at H
     have c18b0:((t356 == 5) == t378)=false:=by simpa using c18
     (try (have c18b1:decide ((t356 == 5)=t378)=false:=by simpa using c18))
     (try (have c18b2:((t356 == 5) == t378)=false:=by simpa using c18))
     (try (have c18b3:¬ ((t356 == 5)=t378):=by simpa using c18))
     clear c18
     obtain rfl:=Option.some.inj H
     go_enter Tryd.func4,Tryd.ntmps4
     try go_wp2_with (first|((with_reducible refine gate_callee (f:=14) rfl ?_);refine goesL_ (some 11) rfl rfl Tryd.func14 (by kernel_rfl) rfl #[.slice A0 l0.length c0] rfl qz4 ?_;(with_reducible refine (spec_DrawGoalOk.calls k _ _ l0 t356 t357 t360 t363 _ ?side1 ?side2 A3.out).mono ?_);(case side1=>exact qz50);(case side2=>exact HC0.out);rintro e w50 ⟨v358,v361,v364,rfl,ho0,ho1,ho2,hb⟩;refine ⟨_,rfl,?_⟩;have n0_:=Aside0.mk (Kd.R_lower ho0 (below_size qz6));have n1_:=Aside0.mk (Kd.R_lower ho1 (below_size qz6));have n2_:=Aside0.mk (Kd.R_lower ho2 (below_size qz6));have n3_:=Aside0.mk (below_step qz6 hb);clear HB;have HO359:=n0_;have HO362:=n1_;have HO365:=n2_;have HB:=n3_;clear n0_ n1_ n2_ n3_;(try clear hb);(try clear hb2);(try clear hk);(try clear hi);(try clear ho0);(try clear ho1);(try clear ho2))|((with_reducible refine gate_dst (N:=3) rfl ?_);refine box_event ?hg (N:=3) ?hd (cs:=#[.int .i64 0,.slice none 0 0,.slice none 0 0,.slice none 0 0]) (t:=42) ?hr ?_;(case hd=>rfl);(case hg=>rfl);(case hr=>first|(go_simp;done)|(go_simp;rfl));intro gb366 hg w51 hbox hb;have n0_:=Aside0.mk (Kd.R_below qz41 hb);have n1_:=Aside0.mk (Kd.R_below qz40 hb);have n2_:=Aside0.mk (Kd.R_below qz39 hb);have n3_:=Aside0.mk (below_step qz6 hb);have n4_:=Aside0.mk (hbox);have n5_:=Aside0.mk ((by rw [hg];exact (below_size qz6):w.heap.size≤gb366));have n6_:=Aside0.mk ((by rw [hg];exact (below_size qz6):w.heap.size≤gb366));clear HO359 HO362 HO365 HB;have HO359:=n0_;have HO362:=n1_;have HO365:=n2_;have HB:=n3_;have BK366:=n4_;have GW366:=n5_;have GE366:=n6_;clear n0_ n1_ n2_ n3_ n4_ n5_ n6_ hb hbox hg;have hcz52_0:w51.cell? ⟨gb366,0,none⟩=some (.int .i64 0):=(blk_cell BK366.out 0).trans rfl;have hcz52_1:w51.cell? ⟨gb366,1,none⟩=some (.slice none 0 0):=(blk_cell BK366.out 1).trans rfl;have hcz52_2:w51.cell? ⟨gb366,2,none⟩=some (.slice none 0 0):=(blk_cell BK366.out 2).trans rfl;have hcz52_3:w51.cell? ⟨gb366,3,none⟩=some (.slice none 0 0):=(blk_cell BK366.out 3).trans rfl;have hfz52_0:=blk_frozen BK366.out 0;have hfz52_1:=blk_frozen BK366.out 1;have hfz52_2:=blk_frozen BK366.out 2;have hfz52_3:=blk_frozen BK366.out 3;obtain ⟨Ao53,co53,eo53⟩:=Kd.R_slice HO359.out;subst eo53;obtain ⟨Ao54,co54,eo54⟩:=Kd.R_slice HO362.out;subst eo54;obtain ⟨Ao55,co55,eo55⟩:=Kd.R_slice HO365.out;subst eo55)|((with_reducible refine gate_callee (f:=15) rfl ?_);refine goesL_ (some 13) rfl rfl Tryd.func15 (by kernel_rfl) rfl #[.agg #[.int .i64 t356,.slice Ao53 t357.length co53,.slice Ao54 t360.length co54,.slice Ao55 t363.length co55]] rfl qz4 ?_;(with_reducible refine (impl_GoalOk.calls t356 _ _ t357 _ _ t360 _ _ t363 true _ ?side1 ?side2 ?side3 ?side4 ?side5 ?side6 A4.out).mono ?_);(case side1=>refine (Kd.R_reads' (e:=47) (base:=w.heap.size) (ok:=fun k_=>(some k_≠(.slice Ao54 t360.length co54:Value).ownBlock∧some k_≠(.slice Ao55 t363.length co55:Value).ownBlock)) (n:=t357.length) (c:=co53) ?_).2.2;exact qz94);(case side2=>exact (Kd.R_reads' HO359.out).2.1);(case side3=>refine (Kd.R_reads' (e:=47) (base:=w.heap.size) (ok:=fun k_=>(some k_≠(.slice Ao53 t357.length co53:Value).ownBlock∧some k_≠(.slice Ao55 t363.length co55:Value).ownBlock)) (n:=t360.length) (c:=co54) ?_).2.2;exact qz90);(case side4=>exact (Kd.R_reads' HO362.out).2.1);(case side5=>refine (Kd.R_reads' (e:=47) (base:=w.heap.size) (ok:=fun k_=>(some k_≠(.slice Ao53 t357.length co53:Value).ownBlock∧some k_≠(.slice Ao54 t360.length co54:Value).ownBlock)) (n:=t363.length) (c:=co55) ?_).2.2;exact qz86);(case side6=>exact (Kd.R_reads' HO365.out).2.1);rintro e w56 ⟨rfl,hb⟩;refine ⟨_,rfl,?_⟩;have n0_:=Aside0.mk (Kd.R_below qz94 hb);have n1_:=Aside0.mk (Kd.R_below qz90 hb);have n2_:=Aside0.mk (Kd.R_below qz86 hb);have n3_:=Aside0.mk (blk_below (g:=gb366) (o:=.cells #[.int .i64 t356,.slice Ao53 t357.length co53,.slice Ao54 t360.length co54,.slice Ao55 t363.length co55] 42 (0,0)) (by (with_reducible repeat (first|refine blk_drewN ?_ _|refine blk_drew ?_|refine blk_alloc ?_ _));refine blk_put (cs:=#[.int .i64 t356,.slice Ao53 t357.length co53,.slice Ao54 t360.length co54,.slice none 0 0]) ?_ 3 _ rfl;(with_reducible repeat (first|refine blk_drewN ?_ _|refine blk_drew ?_|refine blk_alloc ?_ _));refine blk_put (cs:=#[.int .i64 t356,.slice Ao53 t357.length co53,.slice none 0 0,.slice none 0 0]) ?_ 2 _ rfl;(with_reducible repeat (first|refine blk_drewN ?_ _|refine blk_drew ?_|refine blk_alloc ?_ _));refine blk_put (cs:=#[.int .i64 t356,.slice none 0 0,.slice none 0 0,.slice none 0 0]) ?_ 1 _ rfl;(with_reducible repeat (first|refine blk_drewN ?_ _|refine blk_drew ?_|refine blk_alloc ?_ _));refine blk_put (cs:=#[.int .i64 0,.slice none 0 0,.slice none 0 0,.slice none 0 0]) ?_ 0 _ rfl;(with_reducible repeat (first|refine blk_drewN ?_ _|refine blk_drew ?_|refine blk_alloc ?_ _));exact BK366.out) hb);have n4_:=Aside0.mk (below_step qz18 hb);clear HO359 HO362 HO365 BK366 HB;have HO359:=n0_;have HO362:=n1_;have HO365:=n2_;have BK366:=n3_;have HB:=n4_;clear n0_ n1_ n2_ n3_ n4_;(try clear hb);(try clear hb2);(try clear hk);(try clear hi);have hcz57_0:w56.cell? ⟨gb366,0,none⟩=some (.int .i64 t356):=(blk_cell BK366.out 0).trans rfl;have hcz57_1:w56.cell? ⟨gb366,1,none⟩=some (.slice Ao53 t357.length co53):=(blk_cell BK366.out 1).trans rfl;have hcz57_2:w56.cell? ⟨gb366,2,none⟩=some (.slice Ao54 t360.length co54):=(blk_cell BK366.out 2).trans rfl;have hcz57_3:w56.cell? ⟨gb366,3,none⟩=some (.slice Ao55 t363.length co55):=(blk_cell BK366.out 3).trans rfl;have hfz57_0:=blk_frozen BK366.out 0;have hfz57_1:=blk_frozen BK366.out 1;have hfz57_2:=blk_frozen BK366.out 2;have hfz57_3:=blk_frozen BK366.out 3)|((with_reducible refine gate_callee (f:=16) rfl ?_);refine goesL_ (some 16) rfl rfl Tryd.func16 (by kernel_rfl) rfl #[.agg #[.int .i64 t356,.slice Ao53 t357.length co53,.slice Ao54 t360.length co54,.slice Ao55 t363.length co55]] rfl qz4 ?_;(with_reducible refine (spec_GoalOk.calls k t356 _ _ t357 _ _ t360 _ _ t363 t368 _ ?side1 ?side2 ?side3 ?side4 ?side5 ?side6 A5.out).mono ?_);(case side1=>exact qz51);(case side2=>exact (Kd.R_reads' HO359.out).2.1);(case side3=>exact qz47);(case side4=>exact (Kd.R_reads' HO362.out).2.1);(case side5=>exact qz61);(case side6=>exact (Kd.R_reads' HO365.out).2.1);rintro e w58 ⟨rfl,hb⟩;refine ⟨_,rfl,?_⟩;have n0_:=Aside0.mk (Kd.R_below qz41 hb);have n1_:=Aside0.mk (Kd.R_below qz40 hb);have n2_:=Aside0.mk (Kd.R_below qz39 hb);have n3_:=Aside0.mk (blk_below (g:=gb366) (o:=.cells #[.int .i64 t356,.slice Ao53 t357.length co53,.slice Ao54 t360.length co54,.slice Ao55 t363.length co55] 42 (0,0)) qz36 hb);have n4_:=Aside0.mk (below_step qz18 hb);clear HO359 HO362 HO365 BK366 HB;have HO359:=n0_;have HO362:=n1_;have HO365:=n2_;have BK366:=n3_;have HB:=n4_;clear n0_ n1_ n2_ n3_ n4_;(try clear hb);(try clear hb2);(try clear hk);(try clear hi);have hcz59_0:w58.cell? ⟨gb366,0,none⟩=some (.int .i64 t356):=(blk_cell BK366.out 0).trans rfl;have hcz59_1:w58.cell? ⟨gb366,1,none⟩=some (.slice Ao53 t357.length co53):=(blk_cell BK366.out 1).trans rfl;have hcz59_2:w58.cell? ⟨gb366,2,none⟩=some (.slice Ao54 t360.length co54):=(blk_cell BK366.out 2).trans rfl;have hcz59_3:w58.cell? ⟨gb366,3,none⟩=some (.slice Ao55 t363.length co55):=(blk_cell BK366.out 3).trans rfl;have hfz59_0:=blk_frozen BK366.out 0;have hfz59_1:=blk_frozen BK366.out 1;have hfz59_2:=blk_frozen BK366.out 2;have hfz59_3:=blk_frozen BK366.out 3)|((with_reducible refine gate_dst (N:=5) rfl ?_);refine box_event ?hg (N:=5) ?hd (cs:=#[.int .i64 0,.slice none 0 0,.slice none 0 0,.slice none 0 0]) (t:=42) ?hr ?_;(case hd=>rfl);(case hg=>rfl);(case hr=>first|(go_simp;done)|(go_simp;rfl));intro gb370 hg w60 hbox hb;have n0_:=Aside0.mk (Kd.R_below qz41 hb);have n1_:=Aside0.mk (Kd.R_below qz40 hb);have n2_:=Aside0.mk (Kd.R_below qz39 hb);have n3_:=Aside0.mk (blk_below (g:=gb366) (o:=.cells #[.int .i64 t356,.slice Ao53 t357.length co53,.slice Ao54 t360.length co54,.slice Ao55 t363.length co55] 42 (0,0)) qz36 hb);have n4_:=Aside0.mk (below_step qz18 hb);have n5_:=Aside0.mk (hbox);have n6_:=Aside0.mk ((by rw [hg];exact (below_size qz18):w.heap.size≤gb370));have n7_:=Aside0.mk ((by rw [hg];exact (below_size qz18):w.heap.size≤gb370));have n8_:=Aside0.mk ((by rw [hg];exact Nat.ne_of_lt (blk_lt (g:=gb366) (o:=.cells #[.int .i64 t356,.slice Ao53 t357.length co53,.slice Ao54 t360.length co54,.slice Ao55 t363.length co55] 42 (0,0)) qz36):gb366≠gb370));have n9_:=Aside0.mk ((by rw [hg];exact Nat.ne_of_gt (blk_lt (g:=gb366) (o:=.cells #[.int .i64 t356,.slice Ao53 t357.length co53,.slice Ao54 t360.length co54,.slice Ao55 t363.length co55] 42 (0,0)) qz36):gb370≠gb366));clear HO359 HO362 HO365 BK366 HB;have HO359:=n0_;have HO362:=n1_;have HO365:=n2_;have BK366:=n3_;have HB:=n4_;have BK370:=n5_;have GW370:=n6_;have GE370:=n7_;have NB366_370:=n8_;have NB370_366:=n9_;clear n0_ n1_ n2_ n3_ n4_ n5_ n6_ n7_ n8_ n9_ hb hbox hg;have hnb61:=NB370_366.out;have hnc61:=NB366_370.out;have hcz62_0:w60.cell? ⟨gb370,0,none⟩=some (.int .i64 0):=(blk_cell BK370.out 0).trans rfl;have hcz62_1:w60.cell? ⟨gb370,1,none⟩=some (.slice none 0 0):=(blk_cell BK370.out 1).trans rfl;have hcz62_2:w60.cell? ⟨gb370,2,none⟩=some (.slice none 0 0):=(blk_cell BK370.out 2).trans rfl;have hcz62_3:w60.cell? ⟨gb370,3,none⟩=some (.slice none 0 0):=(blk_cell BK370.out 3).trans rfl;have hfz62_0:=blk_frozen BK370.out 0;have hfz62_1:=blk_frozen BK370.out 1;have hfz62_2:=blk_frozen BK370.out 2;have hfz62_3:=blk_frozen BK370.out 3)|((with_reducible refine gate_dst (N:=23) rfl ?_);refine Kd.R_lit k47 _ 47 ?hg (N:=23) ?hd (xs:=([(⟨2,0,(⟨#[]⟩:ByteArray)⟩:S47)]:List (S47))) (inner:=[.int .i64 2,.int .i64 0,.string (⟨#[]⟩:ByteArray)]) (ok:=fun _=>True) (okp:=fun _=>True) ?hr ?hp (fun _ hk=>hk) trivial (Below.refl _ _) (Nat.le_refl _) (by simp) ?_;(case hd=>rfl);(case hg=>rfl);(case hr=>first|(go_simp;done)|(go_simp;rfl));(case hp=>exact (Reps.c3 (show Kd.M k47 _ _ _ (⟨2,0,(⟨#[]⟩:ByteArray)⟩:S47) [.int .i64 2,.int .i64 0,.string (⟨#[]⟩:ByteArray)] from (k47_mkM _ _ _ (⟨2,0,(⟨#[]⟩:ByteArray)⟩:S47) )) (Reps.none _ _)));intro v372 w63 ho64 hb hg_ hnew_;clear hg_ hnew_;(first|rw [← Ny371.out] at ho64|(simp only [Int.reduceToNat] at ho64;rw [← Ny371.out] at ho64));have n0_:=Aside0.mk (Kd.R_elder' qz83 (Kd.R_base ho64) hb);have n1_:=Aside0.mk (Kd.R_elder' qz81 (Kd.R_base ho64) hb);have n2_:=Aside0.mk (Kd.R_elder' qz79 (Kd.R_base ho64) hb);have n3_:=Aside0.mk (Kd.R_lower (Kd.R_new' (Kd.R_new' (Kd.R_new' ho64 (Kd.R_lt qz83)) (Kd.R_lt qz81)) (Kd.R_lt qz79)) (below_size qz32));have n4_:=Aside0.mk (blk_below (g:=gb366) (o:=.cells #[.int .i64 t356,.slice Ao53 t357.length co53,.slice Ao54 t360.length co54,.slice Ao55 t363.length co55] 42 (0,0)) qz65 hb);have n5_:=Aside0.mk (blk_below (g:=gb370) (o:=.cells #[.int .i64 t356,.slice Ao53 t357.length co53,.slice Ao54 t360.length co54,.slice Ao55 t363.length co55] 42 (0,0)) (by (with_reducible repeat (first|refine blk_drewN ?_ _|refine blk_drew ?_|refine blk_alloc ?_ _));refine blk_put (cs:=#[.int .i64 t356,.slice Ao53 t357.length co53,.slice Ao54 t360.length co54,.slice none 0 0]) ?_ 3 _ rfl;(with_reducible repeat (first|refine blk_drewN ?_ _|refine blk_drew ?_|refine blk_alloc ?_ _));refine blk_put (cs:=#[.int .i64 t356,.slice Ao53 t357.length co53,.slice none 0 0,.slice none 0 0]) ?_ 2 _ rfl;(with_reducible repeat (first|refine blk_drewN ?_ _|refine blk_drew ?_|refine blk_alloc ?_ _));refine blk_put (cs:=#[.int .i64 t356,.slice none 0 0,.slice none 0 0,.slice none 0 0]) ?_ 1 _ rfl;(with_reducible repeat (first|refine blk_drewN ?_ _|refine blk_drew ?_|refine blk_alloc ?_ _));refine blk_put (cs:=#[.int .i64 0,.slice none 0 0,.slice none 0 0,.slice none 0 0]) ?_ 0 _ rfl;(with_reducible repeat (first|refine blk_drewN ?_ _|refine blk_drew ?_|refine blk_alloc ?_ _));exact BK370.out) hb);have n6_:=Aside0.mk (below_step qz32 hb);clear HO359 HO362 HO365 BK366 BK370 HB;have HO359:=n0_;have HO362:=n1_;have HO365:=n2_;have HO373:=n3_;have BK366:=n4_;have BK370:=n5_;have HB:=n6_;clear n0_ n1_ n2_ n3_ n4_ n5_ n6_ hb ho64;obtain ⟨Ao65,co65,eo65⟩:=Kd.R_slice HO373.out;subst eo65;have hcz66_0:w63.cell? ⟨gb370,0,none⟩=some (.int .i64 t356):=(blk_cell BK370.out 0).trans rfl;have hcz66_1:w63.cell? ⟨gb370,1,none⟩=some (.slice Ao53 t357.length co53):=(blk_cell BK370.out 1).trans rfl;have hcz66_2:w63.cell? ⟨gb370,2,none⟩=some (.slice Ao54 t360.length co54):=(blk_cell BK370.out 2).trans rfl;have hcz66_3:w63.cell? ⟨gb370,3,none⟩=some (.slice Ao55 t363.length co55):=(blk_cell BK370.out 3).trans rfl;have hfz66_0:=blk_frozen BK370.out 0;have hfz66_1:=blk_frozen BK370.out 1;have hfz66_2:=blk_frozen BK370.out 2;have hfz66_3:=blk_frozen BK370.out 3;have hcz67_0:w63.cell? ⟨gb366,0,none⟩=some (.int .i64 t356):=(blk_cell BK366.out 0).trans rfl;have hcz67_1:w63.cell? ⟨gb366,1,none⟩=some (.slice Ao53 t357.length co53):=(blk_cell BK366.out 1).trans rfl;have hcz67_2:w63.cell? ⟨gb366,2,none⟩=some (.slice Ao54 t360.length co54):=(blk_cell BK366.out 2).trans rfl;have hcz67_3:w63.cell? ⟨gb366,3,none⟩=some (.slice Ao55 t363.length co55):=(blk_cell BK366.out 3).trans rfl;have hfz67_0:=blk_frozen BK366.out 0;have hfz67_1:=blk_frozen BK366.out 1;have hfz67_2:=blk_frozen BK366.out 2;have hfz67_3:=blk_frozen BK366.out 3)|((with_reducible refine gate_dst (N:=6) rfl ?_);refine box_event ?hg (N:=6) ?hd (cs:=#[.int .i64 0,.slice none 0 0,.slice none 0 0,.slice none 0 0]) (t:=42) ?hr ?_;(case hd=>rfl);(case hg=>rfl);(case hr=>first|(go_simp;done)|(go_simp;rfl));intro gb374 hg w68 hbox hb;have n0_:=Aside0.mk (Kd.R_below (by (with_reducible repeat (first|apply Kd.R_alloc|apply Kd.R_drewN|apply Kd.R_drew));exact (Kd.R_mono (Kd.R_far (p:=⟨gb370,3,none⟩) (Kd.R_types HO359.out BK370.out (by decide)) (fun _ hk=>hk.2) (.slice Ao65 y371.length co65)) (fun _ h_=>h_.1))) hb);have n1_:=Aside0.mk (Kd.R_below (by (with_reducible repeat (first|apply Kd.R_alloc|apply Kd.R_drewN|apply Kd.R_drew));exact (Kd.R_mono (Kd.R_far (p:=⟨gb370,3,none⟩) (Kd.R_types HO362.out BK370.out (by decide)) (fun _ hk=>hk.2) (.slice Ao65 y371.length co65)) (fun _ h_=>h_.1))) hb);have n2_:=Aside0.mk (Kd.R_below (by (with_reducible repeat (first|apply Kd.R_alloc|apply Kd.R_drewN|apply Kd.R_drew));exact (Kd.R_mono (Kd.R_far (p:=⟨gb370,3,none⟩) (Kd.R_types HO365.out BK370.out (by decide)) (fun _ hk=>hk.2) (.slice Ao65 y371.length co65)) (fun _ h_=>h_.1))) hb);have n3_:=Aside0.mk (Kd.R_below (by (with_reducible repeat (first|apply Kd.R_alloc|apply Kd.R_drewN|apply Kd.R_drew));exact (Kd.R_mono (Kd.R_far (p:=⟨gb370,3,none⟩) (Kd.R_types HO373.out BK370.out (by decide)) (fun _ hk=>hk.2) (.slice Ao65 y371.length co65)) (fun _ h_=>h_.1))) hb);have n4_:=Aside0.mk (blk_below (g:=gb366) (o:=.cells #[.int .i64 t356,.slice Ao53 t357.length co53,.slice Ao54 t360.length co54,.slice Ao55 t363.length co55] 42 (0,0)) qz42 hb);have n5_:=Aside0.mk (blk_below (g:=gb370) (o:=.cells #[.int .i64 t356,.slice Ao53 t357.length co53,.slice Ao54 t360.length co54,.slice Ao65 y371.length co65] 42 (0,0)) qz57 hb);have n6_:=Aside0.mk (below_step qz32 hb);have n7_:=Aside0.mk (hbox);have n8_:=Aside0.mk ((by rw [hg];exact (below_size qz32):w.heap.size≤gb374));have n9_:=Aside0.mk ((by rw [hg];exact (below_size qz32):w.heap.size≤gb374));have n10_:=Aside0.mk ((by rw [hg];exact Nat.ne_of_lt (blk_lt (g:=gb366) (o:=.cells #[.int .i64 t356,.slice Ao53 t357.length co53,.slice Ao54 t360.length co54,.slice Ao55 t363.length co55] 42 (0,0)) qz42):gb366≠gb374));have n11_:=Aside0.mk ((by rw [hg];exact Nat.ne_of_gt (blk_lt (g:=gb366) (o:=.cells #[.int .i64 t356,.slice Ao53 t357.length co53,.slice Ao54 t360.length co54,.slice Ao55 t363.length co55] 42 (0,0)) qz42):gb374≠gb366));have n12_:=Aside0.mk ((by rw [hg];exact Nat.ne_of_lt (blk_lt (g:=gb370) (o:=.cells #[.int .i64 t356,.slice Ao53 t357.length co53,.slice Ao54 t360.length co54,.slice Ao65 y371.length co65] 42 (0,0)) qz57):gb370≠gb374));have n13_:=Aside0.mk ((by rw [hg];exact Nat.ne_of_gt (blk_lt (g:=gb370) (o:=.cells #[.int .i64 t356,.slice Ao53 t357.length co53,.slice Ao54 t360.length co54,.slice Ao65 y371.length co65] 42 (0,0)) qz57):gb374≠gb370));clear HO359 HO362 HO365 HO373 BK366 BK370 HB;have HO359:=n0_;have HO362:=n1_;have HO365:=n2_;have HO373:=n3_;have BK366:=n4_;have BK370:=n5_;have HB:=n6_;have BK374:=n7_;have GW374:=n8_;have GE374:=n9_;have NB366_374:=n10_;have NB374_366:=n11_;have NB370_374:=n12_;have NB374_370:=n13_;clear n0_ n1_ n2_ n3_ n4_ n5_ n6_ n7_ n8_ n9_ n10_ n11_ n12_ n13_ hb hbox hg;have hnb69:=NB374_366.out;have hnc69:=NB366_374.out;have hnb70:=NB374_370.out;have hnc70:=NB370_374.out;have hcz71_0:w68.cell? ⟨gb374,0,none⟩=some (.int .i64 0):=(blk_cell BK374.out 0).trans rfl;have hcz71_1:w68.cell? ⟨gb374,1,none⟩=some (.slice none 0 0):=(blk_cell BK374.out 1).trans rfl;have hcz71_2:w68.cell? ⟨gb374,2,none⟩=some (.slice none 0 0):=(blk_cell BK374.out 2).trans rfl;have hcz71_3:w68.cell? ⟨gb374,3,none⟩=some (.slice none 0 0):=(blk_cell BK374.out 3).trans rfl;have hfz71_0:=blk_frozen BK374.out 0;have hfz71_1:=blk_frozen BK374.out 1;have hfz71_2:=blk_frozen BK374.out 2;have hfz71_3:=blk_frozen BK374.out 3)|((with_reducible refine gate_dst (N:=26) rfl ?_);refine Kd.R_lit k47 _ 47 ?hg (N:=26) ?hd (xs:=([]:List (S47))) (inner:=[]) (ok:=fun _=>True) (okp:=fun _=>True) ?hr ?hp (fun _ hk=>hk) trivial (Below.refl _ _) (Nat.le_refl _) (by simp) ?_;(case hd=>rfl);(case hg=>rfl);(case hr=>first|(go_simp;done)|(go_simp;rfl));(case hp=>exact (Reps.none _ _));intro v376 w72 ho73 hb hg_ hnew_;clear hg_ hnew_;(first|rw [← Ny375.out] at ho73|(simp only [Int.reduceToNat] at ho73;rw [← Ny375.out] at ho73));have n0_:=Aside0.mk (Kd.R_elder' qz77 (Kd.R_base ho73) hb);have n1_:=Aside0.mk (Kd.R_elder' qz75 (Kd.R_base ho73) hb);have n2_:=Aside0.mk (Kd.R_elder' qz73 (Kd.R_base ho73) hb);have n3_:=Aside0.mk (Kd.R_elder' qz71 (Kd.R_base ho73) hb);have n4_:=Aside0.mk (Kd.R_lower (Kd.R_new' (Kd.R_new' (Kd.R_new' (Kd.R_new' ho73 (Kd.R_lt qz77)) (Kd.R_lt qz75)) (Kd.R_lt qz73)) (Kd.R_lt qz71)) (below_size qz22));have n5_:=Aside0.mk (blk_below (g:=gb366) (o:=.cells #[.int .i64 t356,.slice Ao53 t357.length co53,.slice Ao54 t360.length co54,.slice Ao55 t363.length co55] 42 (0,0)) qz64 hb);have n6_:=Aside0.mk (blk_below (g:=gb370) (o:=.cells #[.int .i64 t356,.slice Ao53 t357.length co53,.slice Ao54 t360.length co54,.slice Ao65 y371.length co65] 42 (0,0)) qz63 hb);have n7_:=Aside0.mk (blk_below (g:=gb374) (o:=.cells #[.int .i64 t356,.slice Ao53 t357.length co53,.slice Ao54 t360.length co54,.slice Ao55 t363.length co55] 42 (0,0)) (by (with_reducible repeat (first|refine blk_drewN ?_ _|refine blk_drew ?_|refine blk_alloc ?_ _));refine blk_put (cs:=#[.int .i64 t356,.slice Ao53 t357.length co53,.slice Ao54 t360.length co54,.slice none 0 0]) ?_ 3 _ rfl;(with_reducible repeat (first|refine blk_drewN ?_ _|refine blk_drew ?_|refine blk_alloc ?_ _));refine blk_put (cs:=#[.int .i64 t356,.slice Ao53 t357.length co53,.slice none 0 0,.slice none 0 0]) ?_ 2 _ rfl;(with_reducible repeat (first|refine blk_drewN ?_ _|refine blk_drew ?_|refine blk_alloc ?_ _));refine blk_put (cs:=#[.int .i64 t356,.slice none 0 0,.slice none 0 0,.slice none 0 0]) ?_ 1 _ rfl;(with_reducible repeat (first|refine blk_drewN ?_ _|refine blk_drew ?_|refine blk_alloc ?_ _));refine blk_put (cs:=#[.int .i64 0,.slice none 0 0,.slice none 0 0,.slice none 0 0]) ?_ 0 _ rfl;(with_reducible repeat (first|refine blk_drewN ?_ _|refine blk_drew ?_|refine blk_alloc ?_ _));exact BK374.out) hb);have n8_:=Aside0.mk (below_step qz22 hb);clear HO359 HO362 HO365 HO373 BK366 BK370 BK374 HB;have HO359:=n0_;have HO362:=n1_;have HO365:=n2_;have HO373:=n3_;have HO377:=n4_;have BK366:=n5_;have BK370:=n6_;have BK374:=n7_;have HB:=n8_;clear n0_ n1_ n2_ n3_ n4_ n5_ n6_ n7_ n8_ hb ho73;obtain ⟨Ao74,co74,eo74⟩:=Kd.R_slice HO377.out;subst eo74;have hcz75_0:w72.cell? ⟨gb374,0,none⟩=some (.int .i64 t356):=(blk_cell BK374.out 0).trans rfl;have hcz75_1:w72.cell? ⟨gb374,1,none⟩=some (.slice Ao53 t357.length co53):=(blk_cell BK374.out 1).trans rfl;have hcz75_2:w72.cell? ⟨gb374,2,none⟩=some (.slice Ao54 t360.length co54):=(blk_cell BK374.out 2).trans rfl;have hcz75_3:w72.cell? ⟨gb374,3,none⟩=some (.slice Ao55 t363.length co55):=(blk_cell BK374.out 3).trans rfl;have hfz75_0:=blk_frozen BK374.out 0;have hfz75_1:=blk_frozen BK374.out 1;have hfz75_2:=blk_frozen BK374.out 2;have hfz75_3:=blk_frozen BK374.out 3))
     have n0_:Aside0 (Kd.R k47 47 (w72.setCell ⟨gb374,1,none⟩ (.slice Ao74 y375.length co74)) w.heap.size (fun k_=>some k_≠(.slice Ao54 t360.length co54:Value).ownBlock∧some k_≠(.slice Ao55 t363.length co55:Value).ownBlock∧some k_≠(.slice Ao65 y371.length co65:Value).ownBlock∧some k_≠(.slice Ao74 y375.length co74:Value).ownBlock) (.slice Ao53 t357.length co53) t357):=⟨by (with_reducible repeat (first|apply Kd.R_alloc|apply Kd.R_drewN|apply Kd.R_drew));exact Kd.R_mono (Kd.R_far (p:=⟨gb374,1,none⟩) (Kd.R_types HO359.out BK374.out (by decide)) (fun _ hk=>hk.2) (.slice Ao74 y375.length co74)) (fun _ hk=>⟨hk.1.1.1.1,⟨hk.1.1.1.2,⟨hk.1.1.2,hk.1.2⟩⟩⟩)⟩
     have n1_:Aside0 (Kd.R k47 47 (w72.setCell ⟨gb374,1,none⟩ (.slice Ao74 y375.length co74)) w.heap.size (fun k_=>some k_≠(.slice Ao53 t357.length co53:Value).ownBlock∧some k_≠(.slice Ao55 t363.length co55:Value).ownBlock∧some k_≠(.slice Ao65 y371.length co65:Value).ownBlock∧some k_≠(.slice Ao74 y375.length co74:Value).ownBlock) (.slice Ao54 t360.length co54) t360):=⟨by (with_reducible repeat (first|apply Kd.R_alloc|apply Kd.R_drewN|apply Kd.R_drew));exact Kd.R_mono (Kd.R_far (p:=⟨gb374,1,none⟩) (Kd.R_types HO362.out BK374.out (by decide)) (fun _ hk=>hk.2) (.slice Ao74 y375.length co74)) (fun _ hk=>⟨hk.1.1.1.1,⟨hk.1.1.1.2,⟨hk.1.1.2,hk.1.2⟩⟩⟩)⟩
     have n2_:Aside0 (Kd.R k47 47 (w72.setCell ⟨gb374,1,none⟩ (.slice Ao74 y375.length co74)) w.heap.size (fun k_=>some k_≠(.slice Ao53 t357.length co53:Value).ownBlock∧some k_≠(.slice Ao54 t360.length co54:Value).ownBlock∧some k_≠(.slice Ao65 y371.length co65:Value).ownBlock∧some k_≠(.slice Ao74 y375.length co74:Value).ownBlock) (.slice Ao55 t363.length co55) t363):=⟨by (with_reducible repeat (first|apply Kd.R_alloc|apply Kd.R_drewN|apply Kd.R_drew));exact Kd.R_mono (Kd.R_far (p:=⟨gb374,1,none⟩) (Kd.R_types HO365.out BK374.out (by decide)) (fun _ hk=>hk.2) (.slice Ao74 y375.length co74)) (fun _ hk=>⟨hk.1.1.1.1,⟨hk.1.1.1.2,⟨hk.1.1.2,hk.1.2⟩⟩⟩)⟩
     have n3_:Aside0 (Kd.R k47 47 (w72.setCell ⟨gb374,1,none⟩ (.slice Ao74 y375.length co74)) w.heap.size (fun k_=>some k_≠(.slice Ao53 t357.length co53:Value).ownBlock∧some k_≠(.slice Ao54 t360.length co54:Value).ownBlock∧some k_≠(.slice Ao55 t363.length co55:Value).ownBlock∧some k_≠(.slice Ao74 y375.length co74:Value).ownBlock) (.slice Ao65 y371.length co65) y371):=⟨by (with_reducible repeat (first|apply Kd.R_alloc|apply Kd.R_drewN|apply Kd.R_drew));exact Kd.R_mono (Kd.R_far (p:=⟨gb374,1,none⟩) (Kd.R_types HO373.out BK374.out (by decide)) (fun _ hk=>hk.2) (.slice Ao74 y375.length co74)) (fun _ hk=>⟨hk.1.1.1.1.2,⟨hk.1.1.1.2,⟨hk.1.1.2,hk.1.2⟩⟩⟩)⟩
     have n4_:Aside0 (Kd.R k47 47 (w72.setCell ⟨gb374,1,none⟩ (.slice Ao74 y375.length co74)) w.heap.size (fun k_=>some k_≠(.slice Ao53 t357.length co53:Value).ownBlock∧some k_≠(.slice Ao54 t360.length co54:Value).ownBlock∧some k_≠(.slice Ao55 t363.length co55:Value).ownBlock∧some k_≠(.slice Ao65 y371.length co65:Value).ownBlock) (.slice Ao74 y375.length co74) y375):=⟨by (with_reducible repeat (first|apply Kd.R_alloc|apply Kd.R_drewN|apply Kd.R_drew));exact Kd.R_mono (Kd.R_far (p:=⟨gb374,1,none⟩) (Kd.R_types HO377.out BK374.out (by decide)) (fun _ hk=>hk.2) (.slice Ao74 y375.length co74)) (fun _ hk=>⟨hk.1.1.1.1.2,⟨hk.1.1.1.2,⟨hk.1.1.2,hk.1.2⟩⟩⟩)⟩
     have n5_:Aside0 ((w72.setCell ⟨gb374,1,none⟩ (.slice Ao74 y375.length co74)).heap[gb366]?=some (.cells #[.int .i64 t356,.slice Ao53 t357.length co53,.slice Ao54 t360.length co54,.slice Ao55 t363.length co55] 42 (0,0))):=⟨qz108⟩
     have n6_:Aside0 ((w72.setCell ⟨gb374,1,none⟩ (.slice Ao74 y375.length co74)).heap[gb370]?=some (.cells #[.int .i64 t356,.slice Ao53 t357.length co53,.slice Ao54 t360.length co54,.slice Ao65 y371.length co65] 42 (0,0))):=⟨qz107⟩
     have n7_:Aside0 ((w72.setCell ⟨gb374,1,none⟩ (.slice Ao74 y375.length co74)).heap[gb374]?=some (.cells #[.int .i64 t356,.slice Ao74 y375.length co74,.slice Ao54 t360.length co54,.slice Ao55 t363.length co55] 42 (0,0))):=⟨by (with_reducible repeat (first|refine blk_drewN ?_ _|refine blk_drew ?_|refine blk_alloc ?_ _));refine blk_put (cs:=#[.int .i64 t356,.slice Ao53 t357.length co53,.slice Ao54 t360.length co54,.slice Ao55 t363.length co55]) ?_ 1 _ rfl;(with_reducible repeat (first|refine blk_drewN ?_ _|refine blk_drew ?_|refine blk_alloc ?_ _));exact BK374.out⟩
     have n8_:Aside0 (Below w.heap.size w (w72.setCell ⟨gb374,1,none⟩ (.slice Ao74 y375.length co74))):=⟨qz22⟩
     (try clear HO359)
     (try clear HO362)
     (try clear HO365)
     (try clear HO373)
     (try clear HO377)
     (try clear BK366)
     (try clear BK370)
     (try clear BK374)
     (try clear HB)
     generalize (w72.setCell ⟨gb374,1,none⟩ (.slice Ao74 y375.length co74))=w76 at n0_ n1_ n2_ n3_ n4_ n5_ n6_ n7_ n8_ ⊢
     have HO359:=n0_
     have HO362:=n1_
     have HO365:=n2_
     have HO373:=n3_
     have HO377:=n4_
     have BK366:=n5_
     have BK370:=n6_
     have BK374:=n7_
     have HB:=n8_
     clear n0_ n1_ n2_ n3_ n4_ n5_ n6_ n7_ n8_
     have n0_:=Aside0.mk (Kd.R_drew HO359.out)
     have n1_:=Aside0.mk (Kd.R_drew HO362.out)
     have n2_:=Aside0.mk (Kd.R_drew HO365.out)
     have n3_:=Aside0.mk (Kd.R_drew HO373.out)
     have n4_:=Aside0.mk (Kd.R_drew HO377.out)
     have n5_:=Aside0.mk (blk_drew BK366.out)
     have n6_:=Aside0.mk (blk_drew BK370.out)
     have n7_:=Aside0.mk (blk_drew BK374.out)
     have n8_:=Aside0.mk (below_drew1 HB.out)
     clear HO359 HO362 HO365 HO373 HO377 BK366 BK370 BK374 HB
     have HO359:=n0_
     have HO362:=n1_
     have HO365:=n2_
     have HO373:=n3_
     have HO377:=n4_
     have BK366:=n5_
     have BK370:=n6_
     have BK374:=n7_
     have HB:=n8_
     clear n0_ n1_ n2_ n3_ n4_ n5_ n6_ n7_ n8_
     refine start_ (n:=15) (S:=fun w'=>w'.cell? ⟨gb366,0,none⟩=some (.int .i64 t356)∧w'.cell? ⟨gb366,1,none⟩=some (.slice Ao53 t357.length co53)∧w'.cell? ⟨gb366,2,none⟩=some (.slice Ao54 t360.length co54)∧w'.cell? ⟨gb366,3,none⟩=some (.slice Ao55 t363.length co55)∧w'.cell? ⟨gb370,0,none⟩=some (.int .i64 t356)∧w'.cell? ⟨gb370,1,none⟩=some (.slice Ao53 t357.length co53)∧w'.cell? ⟨gb370,2,none⟩=some (.slice Ao54 t360.length co54)∧w'.cell? ⟨gb370,3,none⟩=some (.slice Ao65 y371.length co65)) (ds:=[]) #[false,false,false,false,false,false,false,false,false,false,false,false,false,false,false] (by kernel_rfl) rfl rfl ⟨(blk_cell BK366.out 0).trans rfl,(blk_cell BK366.out 1).trans rfl,(blk_cell BK366.out 2).trans rfl,(blk_cell BK366.out 3).trans rfl,(blk_cell BK370.out 0).trans rfl,(blk_cell BK370.out 1).trans rfl,(blk_cell BK370.out 2).trans rfl,(blk_cell BK370.out 3).trans rfl⟩ (fun hHeld=>?_);refine with_tabW laws_FnGoalOk.tab13 laws_FnGoalOk.bits13 (fun HT_ HW_=>?_)
     generalize w76.drew=w77 at HO359 HO362 HO365 HO373 HO377 BK366 BK370 BK374 HB hHeld ⊢
     refine pure_ (i:=0) (N:=some 28) (v:=?_) (a':=?_) #[true,false,false,false,false,false,false,false,false,false,false,false,false,false,false] rfl rfl (any_of HT_.out (by kernel_rfl)) (fun _ _ _ h=>h) (Or.inl ⟨by rfl,?_⟩) ?_ ?_
     rotate_left
     ·intro w'
      go_simp
      with_reducible rfl
     rotate_left
     ·simp only [Act.put,List.setIfInBounds_toArray,List.set_cons_zero,List.set_cons_succ,i64_w,i32_w]
      rfl
     refine take_ (i:=1) (N:=some 29) (v:=?_) (a':=?_) #[true,true,false,false,false,false,false,false,false,false,false,false,false,false,false] rfl rfl (take_ofW HT_.out HW_.out (by kernel_rfl)) (fun _ _ _ h=>h) (Or.inl ⟨by rfl,?_⟩) hHeld ?_ ?_
     rotate_left
     ·rintro w' ⟨s0,s1,s2,s3,s4,s5,s6,s7⟩
      go_simp
      with_reducible rfl
     rotate_left
     ·simp only [Act.put,List.setIfInBounds_toArray,List.set_cons_zero,List.set_cons_succ,i64_w,i32_w]
      rfl
     refine pure_ (i:=2) (N:=some 30) (v:=?_) (a':=?_) #[true,true,true,false,false,false,false,false,false,false,false,false,false,false,false] rfl rfl (any_of HT_.out (by kernel_rfl)) (fun _ _ _ h=>h) (Or.inl ⟨by rfl,?_⟩) ?_ ?_
     rotate_left
     ·intro w'
      go_simp
      with_reducible rfl
     rotate_left
     ·simp only [Act.put,List.setIfInBounds_toArray,List.set_cons_zero,List.set_cons_succ,i64_w,i32_w]
      rfl
     refine take_ (i:=3) (N:=some 31) (v:=?_) (a':=?_) #[true,true,true,true,false,false,false,false,false,false,false,false,false,false,false] rfl rfl (take_ofW HT_.out HW_.out (by kernel_rfl)) (fun _ _ _ h=>h) (Or.inl ⟨by rfl,?_⟩) hHeld ?_ ?_
     rotate_left
     ·rintro w' ⟨s0,s1,s2,s3,s4,s5,s6,s7⟩
      go_simp
      with_reducible rfl
     rotate_left
     ·simp only [Act.put,List.setIfInBounds_toArray,List.set_cons_zero,List.set_cons_succ,i64_w,i32_w]
      rfl
     refine one_ (i:=4) (N:=some 32) #[true,true,true,true,true,false,false,false,false,false,false,false,false,false,false] rfl rfl (one_of HT_.out (by kernel_rfl)) (by decide) (fun K hK=>?_)
     refine goes_ Tryd.func15 (by kernel_rfl) rfl #[.agg #[.int .i64 t356,.slice Ao53 t357.length co53,.slice Ao54 t360.length co54,.slice Ao65 y371.length co65]] (by rfl) rfl rfl qz4 ?_
     with_reducible refine (impl_GoalOk.calls t356 _ _ t357 _ _ t360 _ _ y371 t378 _ ?side1 ?side2 ?side3 ?side4 ?side5 ?side6 A17.out).mono ?_
     (case side1=>exact qz51)
     (case side2=>exact (Kd.R_reads' HO359.out).2.1)
     (case side3=>exact qz47)
     (case side4=>exact (Kd.R_reads' HO362.out).2.1)
     (case side5=>exact qz119)
     (case side6=>exact (Kd.R_reads' HO373.out).2.1)
     rintro e w78 ⟨rfl,hb⟩
     refine ⟨_,rfl,?_⟩
     have n0_:=Aside0.mk (Kd.R_below qz41 hb)
     have n1_:=Aside0.mk (Kd.R_below qz40 hb)
     have n2_:=Aside0.mk (Kd.R_below qz39 hb)
     have n3_:=Aside0.mk (Kd.R_below qz114 hb)
     have n4_:=Aside0.mk (Kd.R_below qz113 hb)
     have n5_:=Aside0.mk (blk_below (g:=gb366) (o:=.cells #[.int .i64 t356,.slice Ao53 t357.length co53,.slice Ao54 t360.length co54,.slice Ao55 t363.length co55] 42 (0,0)) qz36 hb)
     have n6_:=Aside0.mk (blk_below (g:=gb370) (o:=.cells #[.int .i64 t356,.slice Ao53 t357.length co53,.slice Ao54 t360.length co54,.slice Ao65 y371.length co65] 42 (0,0)) qz110 hb)
     have n7_:=Aside0.mk (blk_below (g:=gb374) (o:=.cells #[.int .i64 t356,.slice Ao74 y375.length co74,.slice Ao54 t360.length co54,.slice Ao55 t363.length co55] 42 (0,0)) qz109 hb)
     have n8_:=Aside0.mk (below_step qz22 hb)
     clear HO359 HO362 HO365 HO373 HO377 BK366 BK370 BK374 HB
     have HO359:=n0_
     have HO362:=n1_
     have HO365:=n2_
     have HO373:=n3_
     have HO377:=n4_
     have BK366:=n5_
     have BK370:=n6_
     have BK374:=n7_
     have HB:=n8_
     clear n0_ n1_ n2_ n3_ n4_ n5_ n6_ n7_ n8_
     (try clear hb)
     (try clear hb2)
     (try clear hk)
     (try clear hi)
     refine hK.out _ _ ⟨(blk_cell BK366.out 0).trans rfl,(blk_cell BK366.out 1).trans rfl,(blk_cell BK366.out 2).trans rfl,(blk_cell BK366.out 3).trans rfl,(blk_cell BK370.out 0).trans rfl,(blk_cell BK370.out 1).trans rfl,(blk_cell BK370.out 2).trans rfl,(blk_cell BK370.out 3).trans rfl⟩ (fun hHeld=>?_)
     clear hK K
     refine norm_ (a':=?_) ?_ ?_
     rotate_left
     ·show Act.put _ (some 32) _=_
      simp only [Act.put,List.setIfInBounds_toArray,List.set_cons_zero,List.set_cons_succ,i64_w,i32_w]
      rfl
     refine pure_ (i:=5) (N:=some 33) (v:=?_) (a':=?_) #[true,true,true,true,true,true,false,false,false,false,false,false,false,false,false] rfl rfl (any_of HT_.out (by kernel_rfl)) (fun _ _ _ h=>h) (Or.inl ⟨by rfl,?_⟩) ?_ ?_
     rotate_left
     ·intro w'
      go_simp
      with_reducible rfl
     rotate_left
     ·simp only [Act.put,List.setIfInBounds_toArray,List.set_cons_zero,List.set_cons_succ,i64_w,i32_w]
      rfl
     refine pure_ (i:=6) (N:=some 34) (v:=?_) (a':=?_) #[true,true,true,true,true,true,true,false,false,false,false,false,false,false,false] rfl rfl (any_of HT_.out (by kernel_rfl)) (fun _ _ _ h=>h) (Or.inl ⟨by rfl,?_⟩) ?_ ?_
     rotate_left
     ·intro w'
      go_simp
      with_reducible rfl
     rotate_left
     ·simp only [Act.put,List.setIfInBounds_toArray,List.set_cons_zero,List.set_cons_succ,i64_w,i32_w]
      rfl
     refine pure_ (i:=7) (N:=some 35) (v:=undef) (a':=?_) #[true,true,true,true,true,true,true,true,false,false,false,false,false,false,false] rfl rfl (any_of HT_.out (by kernel_rfl)) (fun _ _ _ h=>h) (Or.inr ⟨by rfl,rfl⟩) ?_ ?_
     rotate_left
     ·simp only [Act.put,List.setIfInBounds_toArray,List.set_cons_zero,List.set_cons_succ,i64_w,i32_w]
      rfl
     refine pure_ (i:=8) (N:=some 36) (v:=undef) (a':=?_) #[true,true,true,true,true,true,true,true,true,false,false,false,false,false,false] rfl rfl (any_of HT_.out (by kernel_rfl)) (fun _ _ _ h=>h) (Or.inr ⟨by rfl,rfl⟩) ?_ ?_
     rotate_left
     ·simp only [Act.put,List.setIfInBounds_toArray,List.set_cons_zero,List.set_cons_succ,i64_w,i32_w]
      rfl
     refine pure_ (i:=9) (N:=some 37) (v:=undef) (a':=?_) #[true,true,true,true,true,true,true,true,true,true,false,false,false,false,false] rfl rfl (any_of HT_.out (by kernel_rfl)) (fun _ _ _ h=>h) (Or.inr ⟨by rfl,rfl⟩) ?_ ?_
     rotate_left
     ·simp only [Act.put,List.setIfInBounds_toArray,List.set_cons_zero,List.set_cons_succ,i64_w,i32_w]
      rfl
     refine pure_ (i:=10) (N:=some 38) (v:=undef) (a':=?_) #[true,true,true,true,true,true,true,true,true,true,true,false,false,false,false] rfl rfl (any_of HT_.out (by kernel_rfl)) (fun _ _ _ h=>h) (Or.inr ⟨by rfl,rfl⟩) ?_ ?_
     rotate_left
     ·simp only [Act.put,List.setIfInBounds_toArray,List.set_cons_zero,List.set_cons_succ,i64_w,i32_w]
      rfl
     refine pure_ (i:=11) (N:=some 39) (v:=undef) (a':=?_) #[true,true,true,true,true,true,true,true,true,true,true,true,false,false,false] rfl rfl (any_of HT_.out (by kernel_rfl)) (fun _ _ _ h=>h) (Or.inr ⟨by rfl,rfl⟩) ?_ ?_
     rotate_left
     ·simp only [Act.put,List.setIfInBounds_toArray,List.set_cons_zero,List.set_cons_succ,i64_w,i32_w]
      rfl
     refine pure_ (i:=12) (N:=some 40) (v:=undef) (a':=?_) #[true,true,true,true,true,true,true,true,true,true,true,true,true,false,false] rfl rfl (any_of HT_.out (by kernel_rfl)) (fun _ _ _ h=>h) (Or.inr ⟨by rfl,rfl⟩) ?_ ?_
     rotate_left
     ·simp only [Act.put,List.setIfInBounds_toArray,List.set_cons_zero,List.set_cons_succ,i64_w,i32_w]
      rfl
     refine pure_ (i:=13) (N:=some 41) (v:=?_) (a':=?_) #[true,true,true,true,true,true,true,true,true,true,true,true,true,true,false] rfl rfl (any_of HT_.out (by kernel_rfl)) (fun _ _ _ h=>h) (Or.inl ⟨by rfl,?_⟩) ?_ ?_
     rotate_left
     ·intro w'
      go_simp
      with_reducible rfl
     rotate_left
     ·simp only [Act.put,List.setIfInBounds_toArray,List.set_cons_zero,List.set_cons_succ,i64_w,i32_w]
      rfl
     refine pure_ (i:=14) (N:=some 2) (v:=?_) (a':=?_) #[true,true,true,true,true,true,true,true,true,true,true,true,true,true,true] rfl rfl (any_of HT_.out (by kernel_rfl)) (fun _ _ _ h=>h) (Or.inl ⟨by rfl,?_⟩) ?_ ?_
     rotate_left
     ·intro w'
      go_simp
      with_reducible rfl
     rotate_left
     ·simp only [Act.put,List.setIfInBounds_toArray,List.set_cons_zero,List.set_cons_succ,i64_w,i32_w]
      rfl
     refine done_ (done_of HT_.out (by kernel_rfl)) ?_
     try go_wp2
     go_ret
     exact ⟨qz9,qz22⟩
   ·replace c16:=Bool.eq_false_iff.mpr c16
    subst c16
    have H1:((laws_caOk.f).bind fun t369=>(some t369))=some r:=qz35
    clear H
    have H:=H1
    clear H1
    replace H:=Option.bind_eq_some_iff.mp H
    obtain ⟨t369,A790,H⟩:=H
    try dsimp only at H
    have A79:=Aside0.mk A790
    clear A790
    obtain rfl:=Option.some.inj H
    go_enter Tryd.func4,Tryd.ntmps4
    go_wp2_with (first|((with_reducible refine gate_callee (f:=14) rfl ?_);refine goesL_ (some 11) rfl rfl Tryd.func14 (by kernel_rfl) rfl #[.slice A0 l0.length c0] rfl qz4 ?_;(with_reducible refine (spec_DrawGoalOk.calls k _ _ l0 t356 t357 t360 t363 _ ?side1 ?side2 A3.out).mono ?_);(case side1=>exact qz50);(case side2=>exact HC0.out);rintro e w80 ⟨v358,v361,v364,rfl,ho0,ho1,ho2,hb⟩;refine ⟨_,rfl,?_⟩;have n0_:=Aside0.mk (Kd.R_lower ho0 (below_size qz6));have n1_:=Aside0.mk (Kd.R_lower ho1 (below_size qz6));have n2_:=Aside0.mk (Kd.R_lower ho2 (below_size qz6));have n3_:=Aside0.mk (below_step qz6 hb);clear HB;have HO359:=n0_;have HO362:=n1_;have HO365:=n2_;have HB:=n3_;clear n0_ n1_ n2_ n3_;(try clear hb);(try clear hb2);(try clear hk);(try clear hi);(try clear ho0);(try clear ho1);(try clear ho2))|((with_reducible refine gate_dst (N:=3) rfl ?_);refine box_event ?hg (N:=3) ?hd (cs:=#[.int .i64 0,.slice none 0 0,.slice none 0 0,.slice none 0 0]) (t:=42) ?hr ?_;(case hd=>rfl);(case hg=>rfl);(case hr=>first|(go_simp;done)|(go_simp;rfl));intro gb366 hg w81 hbox hb;have n0_:=Aside0.mk (Kd.R_below qz41 hb);have n1_:=Aside0.mk (Kd.R_below qz40 hb);have n2_:=Aside0.mk (Kd.R_below qz39 hb);have n3_:=Aside0.mk (below_step qz6 hb);have n4_:=Aside0.mk (hbox);have n5_:=Aside0.mk ((by rw [hg];exact (below_size qz6):w.heap.size≤gb366));have n6_:=Aside0.mk ((by rw [hg];exact (below_size qz6):w.heap.size≤gb366));clear HO359 HO362 HO365 HB;have HO359:=n0_;have HO362:=n1_;have HO365:=n2_;have HB:=n3_;have BK366:=n4_;have GW366:=n5_;have GE366:=n6_;clear n0_ n1_ n2_ n3_ n4_ n5_ n6_ hb hbox hg;have hcz82_0:w81.cell? ⟨gb366,0,none⟩=some (.int .i64 0):=(blk_cell BK366.out 0).trans rfl;have hcz82_1:w81.cell? ⟨gb366,1,none⟩=some (.slice none 0 0):=(blk_cell BK366.out 1).trans rfl;have hcz82_2:w81.cell? ⟨gb366,2,none⟩=some (.slice none 0 0):=(blk_cell BK366.out 2).trans rfl;have hcz82_3:w81.cell? ⟨gb366,3,none⟩=some (.slice none 0 0):=(blk_cell BK366.out 3).trans rfl;have hfz82_0:=blk_frozen BK366.out 0;have hfz82_1:=blk_frozen BK366.out 1;have hfz82_2:=blk_frozen BK366.out 2;have hfz82_3:=blk_frozen BK366.out 3;obtain ⟨Ao83,co83,eo83⟩:=Kd.R_slice HO359.out;subst eo83;obtain ⟨Ao84,co84,eo84⟩:=Kd.R_slice HO362.out;subst eo84;obtain ⟨Ao85,co85,eo85⟩:=Kd.R_slice HO365.out;subst eo85)|((with_reducible refine gate_callee (f:=15) rfl ?_);refine goesL_ (some 13) rfl rfl Tryd.func15 (by kernel_rfl) rfl #[.agg #[.int .i64 t356,.slice Ao83 t357.length co83,.slice Ao84 t360.length co84,.slice Ao85 t363.length co85]] rfl qz4 ?_;(with_reducible refine (impl_GoalOk.calls t356 _ _ t357 _ _ t360 _ _ t363 false _ ?side1 ?side2 ?side3 ?side4 ?side5 ?side6 A4.out).mono ?_);(case side1=>refine (Kd.R_reads' (e:=47) (base:=w.heap.size) (ok:=fun k_=>(some k_≠(.slice Ao84 t360.length co84:Value).ownBlock∧some k_≠(.slice Ao85 t363.length co85:Value).ownBlock)) (n:=t357.length) (c:=co83) ?_).2.2;exact qz93);(case side2=>exact (Kd.R_reads' HO359.out).2.1);(case side3=>refine (Kd.R_reads' (e:=47) (base:=w.heap.size) (ok:=fun k_=>(some k_≠(.slice Ao83 t357.length co83:Value).ownBlock∧some k_≠(.slice Ao85 t363.length co85:Value).ownBlock)) (n:=t360.length) (c:=co84) ?_).2.2;exact qz89);(case side4=>exact (Kd.R_reads' HO362.out).2.1);(case side5=>refine (Kd.R_reads' (e:=47) (base:=w.heap.size) (ok:=fun k_=>(some k_≠(.slice Ao83 t357.length co83:Value).ownBlock∧some k_≠(.slice Ao84 t360.length co84:Value).ownBlock)) (n:=t363.length) (c:=co85) ?_).2.2;exact qz85);(case side6=>exact (Kd.R_reads' HO365.out).2.1);rintro e w86 ⟨rfl,hb⟩;refine ⟨_,rfl,?_⟩;have n0_:=Aside0.mk (Kd.R_below qz93 hb);have n1_:=Aside0.mk (Kd.R_below qz89 hb);have n2_:=Aside0.mk (Kd.R_below qz85 hb);have n3_:=Aside0.mk (blk_below (g:=gb366) (o:=.cells #[.int .i64 t356,.slice Ao83 t357.length co83,.slice Ao84 t360.length co84,.slice Ao85 t363.length co85] 42 (0,0)) (by (with_reducible repeat (first|refine blk_drewN ?_ _|refine blk_drew ?_|refine blk_alloc ?_ _));refine blk_put (cs:=#[.int .i64 t356,.slice Ao83 t357.length co83,.slice Ao84 t360.length co84,.slice none 0 0]) ?_ 3 _ rfl;(with_reducible repeat (first|refine blk_drewN ?_ _|refine blk_drew ?_|refine blk_alloc ?_ _));refine blk_put (cs:=#[.int .i64 t356,.slice Ao83 t357.length co83,.slice none 0 0,.slice none 0 0]) ?_ 2 _ rfl;(with_reducible repeat (first|refine blk_drewN ?_ _|refine blk_drew ?_|refine blk_alloc ?_ _));refine blk_put (cs:=#[.int .i64 t356,.slice none 0 0,.slice none 0 0,.slice none 0 0]) ?_ 1 _ rfl;(with_reducible repeat (first|refine blk_drewN ?_ _|refine blk_drew ?_|refine blk_alloc ?_ _));refine blk_put (cs:=#[.int .i64 0,.slice none 0 0,.slice none 0 0,.slice none 0 0]) ?_ 0 _ rfl;(with_reducible repeat (first|refine blk_drewN ?_ _|refine blk_drew ?_|refine blk_alloc ?_ _));exact BK366.out) hb);have n4_:=Aside0.mk (below_step qz18 hb);clear HO359 HO362 HO365 BK366 HB;have HO359:=n0_;have HO362:=n1_;have HO365:=n2_;have BK366:=n3_;have HB:=n4_;clear n0_ n1_ n2_ n3_ n4_;(try clear hb);(try clear hb2);(try clear hk);(try clear hi);have hcz87_0:w86.cell? ⟨gb366,0,none⟩=some (.int .i64 t356):=(blk_cell BK366.out 0).trans rfl;have hcz87_1:w86.cell? ⟨gb366,1,none⟩=some (.slice Ao83 t357.length co83):=(blk_cell BK366.out 1).trans rfl;have hcz87_2:w86.cell? ⟨gb366,2,none⟩=some (.slice Ao84 t360.length co84):=(blk_cell BK366.out 2).trans rfl;have hcz87_3:w86.cell? ⟨gb366,3,none⟩=some (.slice Ao85 t363.length co85):=(blk_cell BK366.out 3).trans rfl;have hfz87_0:=blk_frozen BK366.out 0;have hfz87_1:=blk_frozen BK366.out 1;have hfz87_2:=blk_frozen BK366.out 2;have hfz87_3:=blk_frozen BK366.out 3)|((with_reducible refine gate_callee (f:=16) rfl ?_);refine goesL_ (some 16) rfl rfl Tryd.func16 (by kernel_rfl) rfl #[.agg #[.int .i64 t356,.slice Ao83 t357.length co83,.slice Ao84 t360.length co84,.slice Ao85 t363.length co85]] rfl qz4 ?_;(with_reducible refine (spec_GoalOk.calls k t356 _ _ t357 _ _ t360 _ _ t363 t368 _ ?side1 ?side2 ?side3 ?side4 ?side5 ?side6 A5.out).mono ?_);(case side1=>exact qz51);(case side2=>exact (Kd.R_reads' HO359.out).2.1);(case side3=>exact qz47);(case side4=>exact (Kd.R_reads' HO362.out).2.1);(case side5=>exact qz61);(case side6=>exact (Kd.R_reads' HO365.out).2.1);rintro e w88 ⟨rfl,hb⟩;refine ⟨_,rfl,?_⟩;have n0_:=Aside0.mk (Kd.R_below qz41 hb);have n1_:=Aside0.mk (Kd.R_below qz40 hb);have n2_:=Aside0.mk (Kd.R_below qz39 hb);have n3_:=Aside0.mk (blk_below (g:=gb366) (o:=.cells #[.int .i64 t356,.slice Ao83 t357.length co83,.slice Ao84 t360.length co84,.slice Ao85 t363.length co85] 42 (0,0)) qz36 hb);have n4_:=Aside0.mk (below_step qz18 hb);clear HO359 HO362 HO365 BK366 HB;have HO359:=n0_;have HO362:=n1_;have HO365:=n2_;have BK366:=n3_;have HB:=n4_;clear n0_ n1_ n2_ n3_ n4_;(try clear hb);(try clear hb2);(try clear hk);(try clear hi))|((with_reducible refine gate_callee (f:=17) rfl ?_);refine goesL_ (some 20) rfl rfl Tryd.func17 (by kernel_rfl) rfl #[] rfl qz4 ?_;(with_reducible refine (laws_caOk.calls  t369 _ A79.out).mono ?_);rintro e w89 ⟨rfl,hb⟩;refine ⟨_,rfl,?_⟩;have n0_:=Aside0.mk (Kd.R_below qz41 hb);have n1_:=Aside0.mk (Kd.R_below qz40 hb);have n2_:=Aside0.mk (Kd.R_below qz39 hb);have n3_:=Aside0.mk (blk_below (g:=gb366) (o:=.cells #[.int .i64 t356,.slice Ao83 t357.length co83,.slice Ao84 t360.length co84,.slice Ao85 t363.length co85] 42 (0,0)) qz36 hb);have n4_:=Aside0.mk (below_step qz18 hb);clear HO359 HO362 HO365 BK366 HB;have HO359:=n0_;have HO362:=n1_;have HO365:=n2_;have BK366:=n3_;have HB:=n4_;clear n0_ n1_ n2_ n3_ n4_;(try clear hb);(try clear hb2);(try clear hk);(try clear hi)))
    go_ret
    exact ⟨qz9,qz18⟩

end Go.Proofs.YtepkgjcobocbpaaDoor.P
