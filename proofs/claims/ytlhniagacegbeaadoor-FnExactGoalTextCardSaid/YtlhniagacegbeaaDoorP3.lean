/- Contracts of functions of the program: each as a Lean function, and that its call does what that says; printed by cprint.py (this session) over print.py of the kit. Conditions: the hypotheses of each theorem. -/
import Derived.Test.YtlhniagacegbeaaDoorVZ
import Derived.Test.YtlhniagacegbeaaDoorP0
import Derived.Test.YtlhniagacegbeaaDoorP1
import Derived.Test.YtlhniagacegbeaaDoorP2
namespace Go.Proofs.YtlhniagacegbeaaDoor.P
open Go.RowKit Go.Proofs.YtlhniagacegbeaaDoorW.PrintWords Go.Proofs.YtlhniagacegbeaaDoorW.PrintLast Go.Proofs.YtlhniagacegbeaaDoorW.PrintMore
attribute [local go_sem] max2_int min2_int max_two min_two max_three min_three max_four min_four   -- for this text's walks alone
set_option linter.unusedVariables false
set_option linter.unusedSimpArgs false

/-! ### spec_GoalOk: function 18 -/
def spec_GoalOk.j0:Nat→Int→Bool→Int→List (S44)→List (S44)→List (S44)→Option (Bool)
 | 0,_,_,_,_,_,_=>none
 | k+1,x4,x39,x123000,x123001,x123002,x123003=>if x39=true then ((spec_l3Term.f k x123001).bind fun t125=>(if t125=true then ((spec_l3Term.f k x123002).bind fun t126=>(if t126=true then (some ((x123003.length:Int) == 0)) else (some false))) else (some false))) else (if x4=5 then ((spec_l3Term.f k x123001).bind fun t127=>(if t127=true then ((spec_l3Term.f k x123002).bind fun t128=>(if t128=true then ((spec_l3Term.f k x123003).bind fun t129=>(some t129)) else (some false))) else (some false))) else (some false))
def spec_GoalOk.f (k:Nat) (a0_0:Int) (l0_1:List (S44)) (l0_2:List (S44)) (l0_3:List (S44)):Option (Bool):=if a0_0=1 then ((spec_l3Term.f k l0_1).bind fun t123=>(if t123=true then ((spec_l3Call.f l0_1).bind fun t124=>(if t124=true then (some ((wrap64 ((l0_2.length:Int)+(l0_3.length:Int))) == 0)) else (some false))) else (some false))) else (if a0_0=3 then (some ((wrap64 ((wrap64 ((l0_1.length:Int)+(l0_2.length:Int)))+(l0_3.length:Int))) == 0)) else (if a0_0=2 then (spec_GoalOk.j0 k a0_0 (a0_0 == 2) a0_0 l0_1 l0_2 l0_3) else (spec_GoalOk.j0 k a0_0 (a0_0 == 4) a0_0 l0_1 l0_2 l0_3)))
set_option maxHeartbeats 8000000 in
set_option maxRecDepth 100000 in
theorem spec_GoalOk.calls (k:Nat) (a0_0:Int) (A0_1:Option Addr) (c0_1:Nat) (l0_1:List (S44)) (A0_2:Option Addr) (c0_2:Nat) (l0_2:List (S44)) (A0_3:Option Addr) (c0_3:Nat) (l0_3:List (S44)) (r:Bool) (w:World) (hr0_1:Kd.C k44 w A0_1 l0_1.length l0_1) (hc0_1:l0_1.length≤c0_1) (hr0_2:Kd.C k44 w A0_2 l0_2.length l0_2) (hc0_2:l0_2.length≤c0_2) (hr0_3:Kd.C k44 w A0_3 l0_3.length l0_3) (hc0_3:l0_3.length≤c0_3) (h:spec_GoalOk.f k a0_0 l0_1 l0_2 l0_3=some r) :
  Calls Tryd.prog 18 #[.agg #[.int .i64 a0_0,.slice A0_1 l0_1.length c0_1,.slice A0_2 l0_2.length c0_2,.slice A0_3 l0_3.length c0_3]] w fun e w'=>e = .returned (.bool r)∧Below w.heap.size w w':=by
 have hu29:=Tryd.underlying29
 have HR0_1:=Aside0.mk hr0_1
 have HC0_1:=Aside0.mk hc0_1
 clear hr0_1 hc0_1
 have HR0_2:=Aside0.mk hr0_2
 have HC0_2:=Aside0.mk hc0_2
 clear hr0_2 hc0_2
 have HR0_3:=Aside0.mk hr0_3
 have HC0_3:=Aside0.mk hc0_3
 clear hr0_3 hc0_3
 have HB:=Aside0.mk (Below.refl w.heap.size w)
 have H:(if a0_0=1 then ((spec_l3Term.f k l0_1).bind fun t123=>(if t123=true then ((spec_l3Call.f l0_1).bind fun t124=>(if t124=true then (some ((wrap64 ((l0_2.length:Int)+(l0_3.length:Int))) == 0)) else (some false))) else (some false))) else (if a0_0=3 then (some ((wrap64 ((wrap64 ((l0_1.length:Int)+(l0_2.length:Int)))+(l0_3.length:Int))) == 0)) else (if a0_0=2 then (spec_GoalOk.j0 k a0_0 (a0_0 == 2) a0_0 l0_1 l0_2 l0_3) else (spec_GoalOk.j0 k a0_0 (a0_0 == 4) a0_0 l0_1 l0_2 l0_3))))=some r:=h
 clear h
 by_cases c2:a0_0=1
 ·rw [if_pos c2] at H
  have c2b0:(a0_0 == 1)=true:=beq_iff_eq.mpr c2
  have c2b1:(a0_0 != 1)=false:=bne_eq_false_iff_eq.mpr c2
  clear c2
  replace H:=Option.bind_eq_some_iff.mp H
  obtain ⟨t123,A30,H⟩:=H
  try dsimp only at H
  have A3:=Aside0.mk A30
  clear A30
  by_cases c4:t123=true
  ·subst c4
   have H1:((spec_l3Call.f l0_1).bind fun t124=>(if t124=true then (some ((wrap64 ((l0_2.length:Int)+(l0_3.length:Int))) == 0)) else (some false)))=some r:=qz42
   clear H
   have H:=H1
   clear H1
   replace H:=Option.bind_eq_some_iff.mp H
   obtain ⟨t124,A50,H⟩:=H
   try dsimp only at H
   have A5:=Aside0.mk A50
   clear A50
   by_cases c6:t124=true
   ·subst c6
    have H1:(some ((wrap64 ((l0_2.length:Int)+(l0_3.length:Int))) == 0))=some r:=qz42
    clear H
    have H:=H1
    clear H1
    obtain rfl:=Option.some.inj H
    go_enter Tryd.func18,Tryd.ntmps18
    go_wp2_with (first|((with_reducible refine gate_dst (N:=1) rfl ?_);(try (refine gate_guard (by rfl) ?_;dsimp only));refine box_event ?hg (N:=1) ?hd (cs:=#[.int .i64 a0_0,.slice A0_1 l0_1.length c0_1,.slice A0_2 l0_2.length c0_2,.slice A0_3 l0_3.length c0_3]) (t:=29) ?hr ?_;(case hd=>rfl);(case hg=>rfl);(case hr=>first|(go_simp;done)|(go_simp;rfl));intro gb122 hg w7 hbox hb;have n0_:=Aside0.mk (below_step qz1 hb);have n1_:=Aside0.mk (hbox);have n2_:=Aside0.mk ((by rw [hg];exact (below_size qz1):w.heap.size≤gb122));have n3_:=Aside0.mk ((by rw [hg];exact (below_size qz1):w.heap.size≤gb122));clear HB;have HB:=n0_;have BK122:=n1_;have GW122:=n2_;have GE122:=n3_;clear n0_ n1_ n2_ n3_ hb hbox hg;have hcz8_0:w7.cell? ⟨gb122,0,none⟩=some (.int .i64 a0_0):=(blk_cell BK122.out 0).trans rfl;have hcz8_1:w7.cell? ⟨gb122,1,none⟩=some (.slice A0_1 l0_1.length c0_1):=(blk_cell BK122.out 1).trans rfl;have hcz8_2:w7.cell? ⟨gb122,2,none⟩=some (.slice A0_2 l0_2.length c0_2):=(blk_cell BK122.out 2).trans rfl;have hcz8_3:w7.cell? ⟨gb122,3,none⟩=some (.slice A0_3 l0_3.length c0_3):=(blk_cell BK122.out 3).trans rfl;have hfz8_0:=blk_frozen BK122.out 0;have hfz8_1:=blk_frozen BK122.out 1;have hfz8_2:=blk_frozen BK122.out 2;have hfz8_3:=blk_frozen BK122.out 3)|((with_reducible refine gate_callee (f:=41) rfl ?_);refine goesL_ (some 9) rfl rfl Tryd.func41 (by kernel_rfl) rfl #[.slice A0_1 l0_1.length c0_1] rfl qz2 ?_;(with_reducible refine (spec_l3Term.calls k _ _ l0_1 true _ ?side1 ?side2 A3.out).mono ?_);(case side1=>exact qz3);(case side2=>exact HC0_1.out);rintro e w9 ⟨rfl,hb⟩;refine ⟨_,rfl,?_⟩;have n0_:=Aside0.mk (blk_below (g:=gb122) (o:=.cells #[.int .i64 a0_0,.slice A0_1 l0_1.length c0_1,.slice A0_2 l0_2.length c0_2,.slice A0_3 l0_3.length c0_3] 29 (0,0)) qz28 hb);have n1_:=Aside0.mk (below_step qz10 hb);clear BK122 HB;have BK122:=n0_;have HB:=n1_;clear n0_ n1_;(try clear hb);(try clear hb2);(try clear hk);(try clear hi);have hcz10_0:w9.cell? ⟨gb122,0,none⟩=some (.int .i64 a0_0):=(blk_cell BK122.out 0).trans rfl;have hcz10_1:w9.cell? ⟨gb122,1,none⟩=some (.slice A0_1 l0_1.length c0_1):=(blk_cell BK122.out 1).trans rfl;have hcz10_2:w9.cell? ⟨gb122,2,none⟩=some (.slice A0_2 l0_2.length c0_2):=(blk_cell BK122.out 2).trans rfl;have hcz10_3:w9.cell? ⟨gb122,3,none⟩=some (.slice A0_3 l0_3.length c0_3):=(blk_cell BK122.out 3).trans rfl;have hfz10_0:=blk_frozen BK122.out 0;have hfz10_1:=blk_frozen BK122.out 1;have hfz10_2:=blk_frozen BK122.out 2;have hfz10_3:=blk_frozen BK122.out 3)|(go_at_call 33;(with_reducible refine (spec_l3Call.calls _ _ l0_1 true _ ?side1 ?side2 A5.out).mono ?_);(case side1=>exact qz3);(case side2=>exact HC0_1.out);rintro e w' ⟨rfl,⟨nd,rfl⟩⟩))
    go_ret
    exact ⟨qz4,qz10⟩
   ·replace c6:=Bool.eq_false_iff.mpr c6
    subst c6
    have H1:(some false)=some r:=qz29
    clear H
    have H:=H1
    clear H1
    obtain rfl:=Option.some.inj H
    go_enter Tryd.func18,Tryd.ntmps18
    go_wp2_with (first|((with_reducible refine gate_dst (N:=1) rfl ?_);(try (refine gate_guard (by rfl) ?_;dsimp only));refine box_event ?hg (N:=1) ?hd (cs:=#[.int .i64 a0_0,.slice A0_1 l0_1.length c0_1,.slice A0_2 l0_2.length c0_2,.slice A0_3 l0_3.length c0_3]) (t:=29) ?hr ?_;(case hd=>rfl);(case hg=>rfl);(case hr=>first|(go_simp;done)|(go_simp;rfl));intro gb122 hg w11 hbox hb;have n0_:=Aside0.mk (below_step qz1 hb);have n1_:=Aside0.mk (hbox);have n2_:=Aside0.mk ((by rw [hg];exact (below_size qz1):w.heap.size≤gb122));have n3_:=Aside0.mk ((by rw [hg];exact (below_size qz1):w.heap.size≤gb122));clear HB;have HB:=n0_;have BK122:=n1_;have GW122:=n2_;have GE122:=n3_;clear n0_ n1_ n2_ n3_ hb hbox hg;have hcz12_0:w11.cell? ⟨gb122,0,none⟩=some (.int .i64 a0_0):=(blk_cell BK122.out 0).trans rfl;have hcz12_1:w11.cell? ⟨gb122,1,none⟩=some (.slice A0_1 l0_1.length c0_1):=(blk_cell BK122.out 1).trans rfl;have hcz12_2:w11.cell? ⟨gb122,2,none⟩=some (.slice A0_2 l0_2.length c0_2):=(blk_cell BK122.out 2).trans rfl;have hcz12_3:w11.cell? ⟨gb122,3,none⟩=some (.slice A0_3 l0_3.length c0_3):=(blk_cell BK122.out 3).trans rfl;have hfz12_0:=blk_frozen BK122.out 0;have hfz12_1:=blk_frozen BK122.out 1;have hfz12_2:=blk_frozen BK122.out 2;have hfz12_3:=blk_frozen BK122.out 3)|((with_reducible refine gate_callee (f:=41) rfl ?_);refine goesL_ (some 9) rfl rfl Tryd.func41 (by kernel_rfl) rfl #[.slice A0_1 l0_1.length c0_1] rfl qz2 ?_;(with_reducible refine (spec_l3Term.calls k _ _ l0_1 true _ ?side1 ?side2 A3.out).mono ?_);(case side1=>exact qz3);(case side2=>exact HC0_1.out);rintro e w13 ⟨rfl,hb⟩;refine ⟨_,rfl,?_⟩;have n0_:=Aside0.mk (blk_below (g:=gb122) (o:=.cells #[.int .i64 a0_0,.slice A0_1 l0_1.length c0_1,.slice A0_2 l0_2.length c0_2,.slice A0_3 l0_3.length c0_3] 29 (0,0)) qz28 hb);have n1_:=Aside0.mk (below_step qz10 hb);clear BK122 HB;have BK122:=n0_;have HB:=n1_;clear n0_ n1_;(try clear hb);(try clear hb2);(try clear hk);(try clear hi);have hcz14_0:w13.cell? ⟨gb122,0,none⟩=some (.int .i64 a0_0):=(blk_cell BK122.out 0).trans rfl;have hcz14_1:w13.cell? ⟨gb122,1,none⟩=some (.slice A0_1 l0_1.length c0_1):=(blk_cell BK122.out 1).trans rfl;have hcz14_2:w13.cell? ⟨gb122,2,none⟩=some (.slice A0_2 l0_2.length c0_2):=(blk_cell BK122.out 2).trans rfl;have hcz14_3:w13.cell? ⟨gb122,3,none⟩=some (.slice A0_3 l0_3.length c0_3):=(blk_cell BK122.out 3).trans rfl;have hfz14_0:=blk_frozen BK122.out 0;have hfz14_1:=blk_frozen BK122.out 1;have hfz14_2:=blk_frozen BK122.out 2;have hfz14_3:=blk_frozen BK122.out 3)|(go_at_call 33;(with_reducible refine (spec_l3Call.calls _ _ l0_1 false _ ?side1 ?side2 A5.out).mono ?_);(case side1=>exact qz3);(case side2=>exact HC0_1.out);rintro e w' ⟨rfl,⟨nd,rfl⟩⟩))
    go_ret
    exact ⟨qz4,qz10⟩
  ·replace c4:=Bool.eq_false_iff.mpr c4
   subst c4
   have H1:(some false)=some r:=qz29
   clear H
   have H:=H1
   clear H1
   obtain rfl:=Option.some.inj H
   go_enter Tryd.func18,Tryd.ntmps18
   go_wp2_with (first|((with_reducible refine gate_dst (N:=1) rfl ?_);(try (refine gate_guard (by rfl) ?_;dsimp only));refine box_event ?hg (N:=1) ?hd (cs:=#[.int .i64 a0_0,.slice A0_1 l0_1.length c0_1,.slice A0_2 l0_2.length c0_2,.slice A0_3 l0_3.length c0_3]) (t:=29) ?hr ?_;(case hd=>rfl);(case hg=>rfl);(case hr=>first|(go_simp;done)|(go_simp;rfl));intro gb122 hg w15 hbox hb;have n0_:=Aside0.mk (below_step qz1 hb);have n1_:=Aside0.mk (hbox);have n2_:=Aside0.mk ((by rw [hg];exact (below_size qz1):w.heap.size≤gb122));have n3_:=Aside0.mk ((by rw [hg];exact (below_size qz1):w.heap.size≤gb122));clear HB;have HB:=n0_;have BK122:=n1_;have GW122:=n2_;have GE122:=n3_;clear n0_ n1_ n2_ n3_ hb hbox hg;have hcz16_0:w15.cell? ⟨gb122,0,none⟩=some (.int .i64 a0_0):=(blk_cell BK122.out 0).trans rfl;have hcz16_1:w15.cell? ⟨gb122,1,none⟩=some (.slice A0_1 l0_1.length c0_1):=(blk_cell BK122.out 1).trans rfl;have hcz16_2:w15.cell? ⟨gb122,2,none⟩=some (.slice A0_2 l0_2.length c0_2):=(blk_cell BK122.out 2).trans rfl;have hcz16_3:w15.cell? ⟨gb122,3,none⟩=some (.slice A0_3 l0_3.length c0_3):=(blk_cell BK122.out 3).trans rfl;have hfz16_0:=blk_frozen BK122.out 0;have hfz16_1:=blk_frozen BK122.out 1;have hfz16_2:=blk_frozen BK122.out 2;have hfz16_3:=blk_frozen BK122.out 3)|((with_reducible refine gate_callee (f:=41) rfl ?_);refine goesL_ (some 9) rfl rfl Tryd.func41 (by kernel_rfl) rfl #[.slice A0_1 l0_1.length c0_1] rfl qz2 ?_;(with_reducible refine (spec_l3Term.calls k _ _ l0_1 false _ ?side1 ?side2 A3.out).mono ?_);(case side1=>exact qz3);(case side2=>exact HC0_1.out);rintro e w17 ⟨rfl,hb⟩;refine ⟨_,rfl,?_⟩;have n0_:=Aside0.mk (blk_below (g:=gb122) (o:=.cells #[.int .i64 a0_0,.slice A0_1 l0_1.length c0_1,.slice A0_2 l0_2.length c0_2,.slice A0_3 l0_3.length c0_3] 29 (0,0)) qz28 hb);have n1_:=Aside0.mk (below_step qz10 hb);clear BK122 HB;have BK122:=n0_;have HB:=n1_;clear n0_ n1_;(try clear hb);(try clear hb2);(try clear hk);(try clear hi)))
   go_ret
   exact ⟨qz4,qz10⟩
 ·rw [if_neg c2] at H
  have c2b0:(a0_0 == 1)=false:=beq_eq_false_iff_ne.mpr c2
  have c2b1:(a0_0 != 1)=true:=bne_iff_ne.mpr c2
  by_cases c18:a0_0=3
  ·rw [if_pos c18] at H
   have c18b0:(a0_0 == 3)=true:=beq_iff_eq.mpr c18
   have c18b1:(a0_0 != 3)=false:=bne_eq_false_iff_eq.mpr c18
   clear c18
   obtain rfl:=Option.some.inj H
   go_enter Tryd.func18,Tryd.ntmps18
   go_wp2_with (first|((with_reducible refine gate_dst (N:=1) rfl ?_);(try (refine gate_guard (by rfl) ?_;dsimp only));refine box_event ?hg (N:=1) ?hd (cs:=#[.int .i64 a0_0,.slice A0_1 l0_1.length c0_1,.slice A0_2 l0_2.length c0_2,.slice A0_3 l0_3.length c0_3]) (t:=29) ?hr ?_;(case hd=>rfl);(case hg=>rfl);(case hr=>first|(go_simp;done)|(go_simp;rfl));intro gb122 hg w19 hbox hb;have n0_:=Aside0.mk (below_step qz1 hb);have n1_:=Aside0.mk (hbox);have n2_:=Aside0.mk ((by rw [hg];exact (below_size qz1):w.heap.size≤gb122));have n3_:=Aside0.mk ((by rw [hg];exact (below_size qz1):w.heap.size≤gb122));clear HB;have HB:=n0_;have BK122:=n1_;have GW122:=n2_;have GE122:=n3_;clear n0_ n1_ n2_ n3_ hb hbox hg;have hcz20_0:w19.cell? ⟨gb122,0,none⟩=some (.int .i64 a0_0):=(blk_cell BK122.out 0).trans rfl;have hcz20_1:w19.cell? ⟨gb122,1,none⟩=some (.slice A0_1 l0_1.length c0_1):=(blk_cell BK122.out 1).trans rfl;have hcz20_2:w19.cell? ⟨gb122,2,none⟩=some (.slice A0_2 l0_2.length c0_2):=(blk_cell BK122.out 2).trans rfl;have hcz20_3:w19.cell? ⟨gb122,3,none⟩=some (.slice A0_3 l0_3.length c0_3):=(blk_cell BK122.out 3).trans rfl;have hfz20_0:=blk_frozen BK122.out 0;have hfz20_1:=blk_frozen BK122.out 1;have hfz20_2:=blk_frozen BK122.out 2;have hfz20_3:=blk_frozen BK122.out 3))
   go_ret
   exact ⟨qz4,qz10⟩
  ·rw [if_neg c18] at H
   have c18b0:(a0_0 == 3)=false:=beq_eq_false_iff_ne.mpr c18
   have c18b1:(a0_0 != 3)=true:=bne_iff_ne.mpr c18
   have HC21:=Aside0.mk H
   clear H
   go_enter Tryd.func18,Tryd.ntmps18
   go_upto_if 39 with (first|((with_reducible refine gate_dst (N:=1) rfl ?_);(try (refine gate_guard (by rfl) ?_;dsimp only));refine box_event ?hg (N:=1) ?hd (cs:=#[.int .i64 a0_0,.slice A0_1 l0_1.length c0_1,.slice A0_2 l0_2.length c0_2,.slice A0_3 l0_3.length c0_3]) (t:=29) ?hr ?_;(case hd=>rfl);(case hg=>rfl);(case hr=>first|(go_simp;done)|(go_simp;rfl));intro gb122 hg w22 hbox hb;have n0_:=Aside0.mk (below_step qz1 hb);have n1_:=Aside0.mk (hbox);have n2_:=Aside0.mk ((by rw [hg];exact (below_size qz1):w.heap.size≤gb122));have n3_:=Aside0.mk ((by rw [hg];exact (below_size qz1):w.heap.size≤gb122));clear HB;have HB:=n0_;have BK122:=n1_;have GW122:=n2_;have GE122:=n3_;clear n0_ n1_ n2_ n3_ hb hbox hg;have hcz23_0:w22.cell? ⟨gb122,0,none⟩=some (.int .i64 a0_0):=(blk_cell BK122.out 0).trans rfl;have hcz23_1:w22.cell? ⟨gb122,1,none⟩=some (.slice A0_1 l0_1.length c0_1):=(blk_cell BK122.out 1).trans rfl;have hcz23_2:w22.cell? ⟨gb122,2,none⟩=some (.slice A0_2 l0_2.length c0_2):=(blk_cell BK122.out 2).trans rfl;have hcz23_3:w22.cell? ⟨gb122,3,none⟩=some (.slice A0_3 l0_3.length c0_3):=(blk_cell BK122.out 3).trans rfl;have hfz23_0:=blk_frozen BK122.out 0;have hfz23_1:=blk_frozen BK122.out 1;have hfz23_2:=blk_frozen BK122.out 2;have hfz23_3:=blk_frozen BK122.out 3))
   (try simp only [Act.put,List.setIfInBounds_toArray,List.set_cons_zero,List.set_cons_succ])
   go_cut [39] (fun v39 wc=>∃ (kq:Nat) (x39_20:Bool),v39 = .bool x39_20∧Aside0 (spec_GoalOk.j0 kq a0_0 x39_20 a0_0 l0_1 l0_2 l0_3=some r)∧Aside0 (kq≤k)∧Aside0 (wc.heap[gb122]?=some (.cells #[.int .i64 a0_0,(.slice A0_1 l0_1.length c0_1),(.slice A0_2 l0_2.length c0_2),(.slice A0_3 l0_3.length c0_3)] 29 (0,0)))∧Aside0 (Below w.heap.size w wc))
   case first=>
    have H:=HC21.out
    clear HC21
    by_cases c24:a0_0=2
    ·rw [if_pos c24] at H
     have c24b0:(a0_0 == 2)=true:=beq_iff_eq.mpr c24
     have c24b1:(a0_0 != 2)=false:=bne_eq_false_iff_eq.mpr c24
     clear c24
     (first|rw [c24b0]|rw [c24b1]|(simp only [i64_w,i32_w];rw [c24b0])|skip)
     have H':=Aside0.mk H
     clear H
     go_wp2
     go_meet
     case rel=>exact ⟨_,((a0_0 == 2)),qz16,H',⟨qz72⟩,⟨qz28⟩,⟨qz10⟩⟩
    ·rw [if_neg c24] at H
     have c24b0:(a0_0 == 2)=false:=beq_eq_false_iff_ne.mpr c24
     have c24b1:(a0_0 != 2)=true:=bne_iff_ne.mpr c24
     (first|rw [c24b0]|rw [c24b1]|(simp only [i64_w,i32_w];rw [c24b0])|skip)
     have H':=Aside0.mk H
     clear H
     go_wp2
     go_meet
     case rel=>exact ⟨_,((a0_0 == 4)),qz16,H',⟨qz72⟩,⟨qz28⟩,⟨qz10⟩⟩
   case rest=>
    clear HC21
    try clear c1
    try clear c2
    try clear c2b0
    try clear c2b1
    try clear p2
    try clear c4
    try clear c6
    try clear p6
    try clear c18
    try clear c18b0
    try clear c18b1
    try clear c24
    try clear c24b0
    try clear c24b1
    try clear hcz10_0
    try clear hcz10_1
    try clear hcz10_2
    try clear hcz10_3
    try clear hcz12_0
    try clear hcz12_1
    try clear hcz12_2
    try clear hcz12_3
    try clear hcz14_0
    try clear hcz14_1
    try clear hcz14_2
    try clear hcz14_3
    try clear hcz16_0
    try clear hcz16_1
    try clear hcz16_2
    try clear hcz16_3
    try clear hcz20_0
    try clear hcz20_1
    try clear hcz20_2
    try clear hcz20_3
    try clear hcz23_0
    try clear hcz23_1
    try clear hcz23_2
    try clear hcz23_3
    try clear hcz8_0
    try clear hcz8_1
    try clear hcz8_2
    try clear hcz8_3
    try clear hfz10_0
    try clear hfz10_1
    try clear hfz10_2
    try clear hfz10_3
    try clear hfz12_0
    try clear hfz12_1
    try clear hfz12_2
    try clear hfz12_3
    try clear hfz14_0
    try clear hfz14_1
    try clear hfz14_2
    try clear hfz14_3
    try clear hfz16_0
    try clear hfz16_1
    try clear hfz16_2
    try clear hfz16_3
    try clear hfz20_0
    try clear hfz20_1
    try clear hfz20_2
    try clear hfz20_3
    try clear hfz23_0
    try clear hfz23_1
    try clear hfz23_2
    try clear hfz23_3
    try clear hfz8_0
    try clear hfz8_1
    try clear hfz8_2
    try clear hfz8_3
    obtain ⟨kq,x39_20,rfl,HA,HJ20,BK122,HB⟩:=hcut
    cases kq with
    | zero=>exact absurd HA.out (by simp [spec_GoalOk.j0])
    | succ kj20=>
     have H:=HA.out
     clear HA
     simp only [spec_GoalOk.j0] at H
     by_cases c25:x39_20=true
     ·subst c25
      have H1:((spec_l3Term.f kj20 l0_1).bind fun t125=>(if t125=true then ((spec_l3Term.f kj20 l0_2).bind fun t126=>(if t126=true then (some ((l0_3.length:Int) == 0)) else (some false))) else (some false)))=some r:=qz42
      clear H
      have H:=H1
      clear H1
      replace H:=Option.bind_eq_some_iff.mp H
      obtain ⟨t125,A260,H⟩:=H
      try dsimp only at H
      have A26:=Aside0.mk A260
      clear A260
      by_cases c27:t125=true
      ·subst c27
       have H1:((spec_l3Term.f kj20 l0_2).bind fun t126=>(if t126=true then (some ((l0_3.length:Int) == 0)) else (some false)))=some r:=qz42
       clear H
       have H:=H1
       clear H1
       replace H:=Option.bind_eq_some_iff.mp H
       obtain ⟨t126,A280,H⟩:=H
       try dsimp only at H
       have A28:=Aside0.mk A280
       clear A280
       by_cases c29:t126=true
       ·subst c29
        have H1:(some ((l0_3.length:Int) == 0))=some r:=qz42
        clear H
        have H:=H1
        clear H1
        obtain rfl:=Option.some.inj H
        have hcz30_0:wc.cell? ⟨gb122,0,none⟩=some (.int .i64 a0_0):=(blk_cell BK122.out 0).trans rfl
        have hcz30_1:wc.cell? ⟨gb122,1,none⟩=some (.slice A0_1 l0_1.length c0_1):=(blk_cell BK122.out 1).trans rfl
        have hcz30_2:wc.cell? ⟨gb122,2,none⟩=some (.slice A0_2 l0_2.length c0_2):=(blk_cell BK122.out 2).trans rfl
        have hcz30_3:wc.cell? ⟨gb122,3,none⟩=some (.slice A0_3 l0_3.length c0_3):=(blk_cell BK122.out 3).trans rfl
        have hfz30_0:=blk_frozen BK122.out 0
        have hfz30_1:=blk_frozen BK122.out 1
        have hfz30_2:=blk_frozen BK122.out 2
        have hfz30_3:=blk_frozen BK122.out 3
        go_wp2_with (first|((with_reducible refine gate_callee (f:=41) rfl ?_);refine goesL_ (some 44) rfl rfl Tryd.func41 (by kernel_rfl) rfl #[.slice A0_1 l0_1.length c0_1] rfl qz2 ?_;(with_reducible refine (spec_l3Term.calls kj20 _ _ l0_1 true _ ?side1 ?side2 A26.out).mono ?_);(case side1=>exact qz3);(case side2=>exact HC0_1.out);rintro e w31 ⟨rfl,hb⟩;refine ⟨_,rfl,?_⟩;have n0_:=Aside0.mk (blk_below (g:=gb122) (o:=.cells #[.int .i64 a0_0,.slice A0_1 l0_1.length c0_1,.slice A0_2 l0_2.length c0_2,.slice A0_3 l0_3.length c0_3] 29 (0,0)) qz28 hb);have n1_:=Aside0.mk (below_step qz10 hb);clear BK122 HB;have BK122:=n0_;have HB:=n1_;clear n0_ n1_;(try clear hb);(try clear hb2);(try clear hk);(try clear hi);have hcz32_0:w31.cell? ⟨gb122,0,none⟩=some (.int .i64 a0_0):=(blk_cell BK122.out 0).trans rfl;have hcz32_1:w31.cell? ⟨gb122,1,none⟩=some (.slice A0_1 l0_1.length c0_1):=(blk_cell BK122.out 1).trans rfl;have hcz32_2:w31.cell? ⟨gb122,2,none⟩=some (.slice A0_2 l0_2.length c0_2):=(blk_cell BK122.out 2).trans rfl;have hcz32_3:w31.cell? ⟨gb122,3,none⟩=some (.slice A0_3 l0_3.length c0_3):=(blk_cell BK122.out 3).trans rfl;have hfz32_0:=blk_frozen BK122.out 0;have hfz32_1:=blk_frozen BK122.out 1;have hfz32_2:=blk_frozen BK122.out 2;have hfz32_3:=blk_frozen BK122.out 3)|(go_at_call 41;(with_reducible refine (spec_l3Term.calls kj20 _ _ l0_2 true _ ?side1 ?side2 A28.out).mono ?_);(case side1=>exact qz5);(case side2=>exact HC0_2.out);rintro e w33 ⟨rfl,hb⟩;have n0_:=Aside0.mk (blk_below (g:=gb122) (o:=.cells #[.int .i64 a0_0,.slice A0_1 l0_1.length c0_1,.slice A0_2 l0_2.length c0_2,.slice A0_3 l0_3.length c0_3] 29 (0,0)) qz28 hb);have n1_:=Aside0.mk (below_step qz10 hb);clear BK122 HB;have BK122:=n0_;have HB:=n1_;clear n0_ n1_;(try clear hb);(try clear hb2);(try clear hk);(try clear hi);have hcz34_0:w33.cell? ⟨gb122,0,none⟩=some (.int .i64 a0_0):=(blk_cell BK122.out 0).trans rfl;have hcz34_1:w33.cell? ⟨gb122,1,none⟩=some (.slice A0_1 l0_1.length c0_1):=(blk_cell BK122.out 1).trans rfl;have hcz34_2:w33.cell? ⟨gb122,2,none⟩=some (.slice A0_2 l0_2.length c0_2):=(blk_cell BK122.out 2).trans rfl;have hcz34_3:w33.cell? ⟨gb122,3,none⟩=some (.slice A0_3 l0_3.length c0_3):=(blk_cell BK122.out 3).trans rfl;have hfz34_0:=blk_frozen BK122.out 0;have hfz34_1:=blk_frozen BK122.out 1;have hfz34_2:=blk_frozen BK122.out 2;have hfz34_3:=blk_frozen BK122.out 3))
        go_ret
        exact ⟨qz4,qz10⟩
       ·replace c29:=Bool.eq_false_iff.mpr c29
        subst c29
        have H1:(some false)=some r:=qz29
        clear H
        have H:=H1
        clear H1
        obtain rfl:=Option.some.inj H
        have hcz35_0:wc.cell? ⟨gb122,0,none⟩=some (.int .i64 a0_0):=(blk_cell BK122.out 0).trans rfl
        have hcz35_1:wc.cell? ⟨gb122,1,none⟩=some (.slice A0_1 l0_1.length c0_1):=(blk_cell BK122.out 1).trans rfl
        have hcz35_2:wc.cell? ⟨gb122,2,none⟩=some (.slice A0_2 l0_2.length c0_2):=(blk_cell BK122.out 2).trans rfl
        have hcz35_3:wc.cell? ⟨gb122,3,none⟩=some (.slice A0_3 l0_3.length c0_3):=(blk_cell BK122.out 3).trans rfl
        have hfz35_0:=blk_frozen BK122.out 0
        have hfz35_1:=blk_frozen BK122.out 1
        have hfz35_2:=blk_frozen BK122.out 2
        have hfz35_3:=blk_frozen BK122.out 3
        go_wp2_with (first|((with_reducible refine gate_callee (f:=41) rfl ?_);refine goesL_ (some 44) rfl rfl Tryd.func41 (by kernel_rfl) rfl #[.slice A0_1 l0_1.length c0_1] rfl qz2 ?_;(with_reducible refine (spec_l3Term.calls kj20 _ _ l0_1 true _ ?side1 ?side2 A26.out).mono ?_);(case side1=>exact qz3);(case side2=>exact HC0_1.out);rintro e w36 ⟨rfl,hb⟩;refine ⟨_,rfl,?_⟩;have n0_:=Aside0.mk (blk_below (g:=gb122) (o:=.cells #[.int .i64 a0_0,.slice A0_1 l0_1.length c0_1,.slice A0_2 l0_2.length c0_2,.slice A0_3 l0_3.length c0_3] 29 (0,0)) qz28 hb);have n1_:=Aside0.mk (below_step qz10 hb);clear BK122 HB;have BK122:=n0_;have HB:=n1_;clear n0_ n1_;(try clear hb);(try clear hb2);(try clear hk);(try clear hi);have hcz37_0:w36.cell? ⟨gb122,0,none⟩=some (.int .i64 a0_0):=(blk_cell BK122.out 0).trans rfl;have hcz37_1:w36.cell? ⟨gb122,1,none⟩=some (.slice A0_1 l0_1.length c0_1):=(blk_cell BK122.out 1).trans rfl;have hcz37_2:w36.cell? ⟨gb122,2,none⟩=some (.slice A0_2 l0_2.length c0_2):=(blk_cell BK122.out 2).trans rfl;have hcz37_3:w36.cell? ⟨gb122,3,none⟩=some (.slice A0_3 l0_3.length c0_3):=(blk_cell BK122.out 3).trans rfl;have hfz37_0:=blk_frozen BK122.out 0;have hfz37_1:=blk_frozen BK122.out 1;have hfz37_2:=blk_frozen BK122.out 2;have hfz37_3:=blk_frozen BK122.out 3)|(go_at_call 41;(with_reducible refine (spec_l3Term.calls kj20 _ _ l0_2 false _ ?side1 ?side2 A28.out).mono ?_);(case side1=>exact qz5);(case side2=>exact HC0_2.out);rintro e w38 ⟨rfl,hb⟩;have n0_:=Aside0.mk (blk_below (g:=gb122) (o:=.cells #[.int .i64 a0_0,.slice A0_1 l0_1.length c0_1,.slice A0_2 l0_2.length c0_2,.slice A0_3 l0_3.length c0_3] 29 (0,0)) qz28 hb);have n1_:=Aside0.mk (below_step qz10 hb);clear BK122 HB;have BK122:=n0_;have HB:=n1_;clear n0_ n1_;(try clear hb);(try clear hb2);(try clear hk);(try clear hi)))
        go_ret
        exact ⟨qz4,qz10⟩
      ·replace c27:=Bool.eq_false_iff.mpr c27
       subst c27
       have H1:(some false)=some r:=qz29
       clear H
       have H:=H1
       clear H1
       obtain rfl:=Option.some.inj H
       have hcz39_0:wc.cell? ⟨gb122,0,none⟩=some (.int .i64 a0_0):=(blk_cell BK122.out 0).trans rfl
       have hcz39_1:wc.cell? ⟨gb122,1,none⟩=some (.slice A0_1 l0_1.length c0_1):=(blk_cell BK122.out 1).trans rfl
       have hcz39_2:wc.cell? ⟨gb122,2,none⟩=some (.slice A0_2 l0_2.length c0_2):=(blk_cell BK122.out 2).trans rfl
       have hcz39_3:wc.cell? ⟨gb122,3,none⟩=some (.slice A0_3 l0_3.length c0_3):=(blk_cell BK122.out 3).trans rfl
       have hfz39_0:=blk_frozen BK122.out 0
       have hfz39_1:=blk_frozen BK122.out 1
       have hfz39_2:=blk_frozen BK122.out 2
       have hfz39_3:=blk_frozen BK122.out 3
       go_wp2_with (first|((with_reducible refine gate_callee (f:=41) rfl ?_);refine goesL_ (some 44) rfl rfl Tryd.func41 (by kernel_rfl) rfl #[.slice A0_1 l0_1.length c0_1] rfl qz2 ?_;(with_reducible refine (spec_l3Term.calls kj20 _ _ l0_1 false _ ?side1 ?side2 A26.out).mono ?_);(case side1=>exact qz3);(case side2=>exact HC0_1.out);rintro e w40 ⟨rfl,hb⟩;refine ⟨_,rfl,?_⟩;have n0_:=Aside0.mk (blk_below (g:=gb122) (o:=.cells #[.int .i64 a0_0,.slice A0_1 l0_1.length c0_1,.slice A0_2 l0_2.length c0_2,.slice A0_3 l0_3.length c0_3] 29 (0,0)) qz28 hb);have n1_:=Aside0.mk (below_step qz10 hb);clear BK122 HB;have BK122:=n0_;have HB:=n1_;clear n0_ n1_;(try clear hb);(try clear hb2);(try clear hk);(try clear hi)))
       go_ret
       exact ⟨qz4,qz10⟩
     ·replace c25:=Bool.eq_false_iff.mpr c25
      subst c25
      have H1:(if a0_0=5 then ((spec_l3Term.f kj20 l0_1).bind fun t127=>(if t127=true then ((spec_l3Term.f kj20 l0_2).bind fun t128=>(if t128=true then ((spec_l3Term.f kj20 l0_3).bind fun t129=>(some t129)) else (some false))) else (some false))) else (some false))=some r:=qz29
      clear H
      have H:=H1
      clear H1
      by_cases c41:a0_0=5
      ·rw [if_pos c41] at H
       have c41b0:(a0_0 == 5)=true:=beq_iff_eq.mpr c41
       have c41b1:(a0_0 != 5)=false:=bne_eq_false_iff_eq.mpr c41
       clear c41
       replace H:=Option.bind_eq_some_iff.mp H
       obtain ⟨t127,A420,H⟩:=H
       try dsimp only at H
       have A42:=Aside0.mk A420
       clear A420
       by_cases c43:t127=true
       ·subst c43
        have H1:((spec_l3Term.f kj20 l0_2).bind fun t128=>(if t128=true then ((spec_l3Term.f kj20 l0_3).bind fun t129=>(some t129)) else (some false)))=some r:=qz42
        clear H
        have H:=H1
        clear H1
        replace H:=Option.bind_eq_some_iff.mp H
        obtain ⟨t128,A440,H⟩:=H
        try dsimp only at H
        have A44:=Aside0.mk A440
        clear A440
        by_cases c45:t128=true
        ·subst c45
         have H1:((spec_l3Term.f kj20 l0_3).bind fun t129=>(some t129))=some r:=qz42
         clear H
         have H:=H1
         clear H1
         replace H:=Option.bind_eq_some_iff.mp H
         obtain ⟨t129,A460,H⟩:=H
         try dsimp only at H
         have A46:=Aside0.mk A460
         clear A460
         obtain rfl:=Option.some.inj H
         have hcz47_0:wc.cell? ⟨gb122,0,none⟩=some (.int .i64 a0_0):=(blk_cell BK122.out 0).trans rfl
         have hcz47_1:wc.cell? ⟨gb122,1,none⟩=some (.slice A0_1 l0_1.length c0_1):=(blk_cell BK122.out 1).trans rfl
         have hcz47_2:wc.cell? ⟨gb122,2,none⟩=some (.slice A0_2 l0_2.length c0_2):=(blk_cell BK122.out 2).trans rfl
         have hcz47_3:wc.cell? ⟨gb122,3,none⟩=some (.slice A0_3 l0_3.length c0_3):=(blk_cell BK122.out 3).trans rfl
         have hfz47_0:=blk_frozen BK122.out 0
         have hfz47_1:=blk_frozen BK122.out 1
         have hfz47_2:=blk_frozen BK122.out 2
         have hfz47_3:=blk_frozen BK122.out 3
         go_wp2_with (first|((with_reducible refine gate_callee (f:=41) rfl ?_);refine goesL_ (some 60) rfl rfl Tryd.func41 (by kernel_rfl) rfl #[.slice A0_1 l0_1.length c0_1] rfl qz2 ?_;(with_reducible refine (spec_l3Term.calls kj20 _ _ l0_1 true _ ?side1 ?side2 A42.out).mono ?_);(case side1=>exact qz3);(case side2=>exact HC0_1.out);rintro e w48 ⟨rfl,hb⟩;refine ⟨_,rfl,?_⟩;have n0_:=Aside0.mk (blk_below (g:=gb122) (o:=.cells #[.int .i64 a0_0,.slice A0_1 l0_1.length c0_1,.slice A0_2 l0_2.length c0_2,.slice A0_3 l0_3.length c0_3] 29 (0,0)) qz28 hb);have n1_:=Aside0.mk (below_step qz10 hb);clear BK122 HB;have BK122:=n0_;have HB:=n1_;clear n0_ n1_;(try clear hb);(try clear hb2);(try clear hk);(try clear hi);have hcz49_0:w48.cell? ⟨gb122,0,none⟩=some (.int .i64 a0_0):=(blk_cell BK122.out 0).trans rfl;have hcz49_1:w48.cell? ⟨gb122,1,none⟩=some (.slice A0_1 l0_1.length c0_1):=(blk_cell BK122.out 1).trans rfl;have hcz49_2:w48.cell? ⟨gb122,2,none⟩=some (.slice A0_2 l0_2.length c0_2):=(blk_cell BK122.out 2).trans rfl;have hcz49_3:w48.cell? ⟨gb122,3,none⟩=some (.slice A0_3 l0_3.length c0_3):=(blk_cell BK122.out 3).trans rfl;have hfz49_0:=blk_frozen BK122.out 0;have hfz49_1:=blk_frozen BK122.out 1;have hfz49_2:=blk_frozen BK122.out 2;have hfz49_3:=blk_frozen BK122.out 3)|(go_at_call 41;(with_reducible refine (spec_l3Term.calls kj20 _ _ l0_2 true _ ?side1 ?side2 A44.out).mono ?_);(case side1=>exact qz5);(case side2=>exact HC0_2.out);rintro e w50 ⟨rfl,hb⟩;have n0_:=Aside0.mk (blk_below (g:=gb122) (o:=.cells #[.int .i64 a0_0,.slice A0_1 l0_1.length c0_1,.slice A0_2 l0_2.length c0_2,.slice A0_3 l0_3.length c0_3] 29 (0,0)) qz28 hb);have n1_:=Aside0.mk (below_step qz10 hb);clear BK122 HB;have BK122:=n0_;have HB:=n1_;clear n0_ n1_;(try clear hb);(try clear hb2);(try clear hk);(try clear hi);have hcz51_0:w50.cell? ⟨gb122,0,none⟩=some (.int .i64 a0_0):=(blk_cell BK122.out 0).trans rfl;have hcz51_1:w50.cell? ⟨gb122,1,none⟩=some (.slice A0_1 l0_1.length c0_1):=(blk_cell BK122.out 1).trans rfl;have hcz51_2:w50.cell? ⟨gb122,2,none⟩=some (.slice A0_2 l0_2.length c0_2):=(blk_cell BK122.out 2).trans rfl;have hcz51_3:w50.cell? ⟨gb122,3,none⟩=some (.slice A0_3 l0_3.length c0_3):=(blk_cell BK122.out 3).trans rfl;have hfz51_0:=blk_frozen BK122.out 0;have hfz51_1:=blk_frozen BK122.out 1;have hfz51_2:=blk_frozen BK122.out 2;have hfz51_3:=blk_frozen BK122.out 3)|(go_at_call 41;(with_reducible refine (spec_l3Term.calls kj20 _ _ l0_3 t129 _ ?side1 ?side2 A46.out).mono ?_);(case side1=>exact qz8);(case side2=>exact HC0_3.out);rintro e w52 ⟨rfl,hb⟩;have n0_:=Aside0.mk (blk_below (g:=gb122) (o:=.cells #[.int .i64 a0_0,.slice A0_1 l0_1.length c0_1,.slice A0_2 l0_2.length c0_2,.slice A0_3 l0_3.length c0_3] 29 (0,0)) qz28 hb);have n1_:=Aside0.mk (below_step qz10 hb);clear BK122 HB;have BK122:=n0_;have HB:=n1_;clear n0_ n1_;(try clear hb);(try clear hb2);(try clear hk);(try clear hi)))
         go_ret
         exact ⟨qz4,qz10⟩
        ·replace c45:=Bool.eq_false_iff.mpr c45
         subst c45
         have H1:(some false)=some r:=qz29
         clear H
         have H:=H1
         clear H1
         obtain rfl:=Option.some.inj H
         have hcz53_0:wc.cell? ⟨gb122,0,none⟩=some (.int .i64 a0_0):=(blk_cell BK122.out 0).trans rfl
         have hcz53_1:wc.cell? ⟨gb122,1,none⟩=some (.slice A0_1 l0_1.length c0_1):=(blk_cell BK122.out 1).trans rfl
         have hcz53_2:wc.cell? ⟨gb122,2,none⟩=some (.slice A0_2 l0_2.length c0_2):=(blk_cell BK122.out 2).trans rfl
         have hcz53_3:wc.cell? ⟨gb122,3,none⟩=some (.slice A0_3 l0_3.length c0_3):=(blk_cell BK122.out 3).trans rfl
         have hfz53_0:=blk_frozen BK122.out 0
         have hfz53_1:=blk_frozen BK122.out 1
         have hfz53_2:=blk_frozen BK122.out 2
         have hfz53_3:=blk_frozen BK122.out 3
         go_wp2_with (first|((with_reducible refine gate_callee (f:=41) rfl ?_);refine goesL_ (some 60) rfl rfl Tryd.func41 (by kernel_rfl) rfl #[.slice A0_1 l0_1.length c0_1] rfl qz2 ?_;(with_reducible refine (spec_l3Term.calls kj20 _ _ l0_1 true _ ?side1 ?side2 A42.out).mono ?_);(case side1=>exact qz3);(case side2=>exact HC0_1.out);rintro e w54 ⟨rfl,hb⟩;refine ⟨_,rfl,?_⟩;have n0_:=Aside0.mk (blk_below (g:=gb122) (o:=.cells #[.int .i64 a0_0,.slice A0_1 l0_1.length c0_1,.slice A0_2 l0_2.length c0_2,.slice A0_3 l0_3.length c0_3] 29 (0,0)) qz28 hb);have n1_:=Aside0.mk (below_step qz10 hb);clear BK122 HB;have BK122:=n0_;have HB:=n1_;clear n0_ n1_;(try clear hb);(try clear hb2);(try clear hk);(try clear hi);have hcz55_0:w54.cell? ⟨gb122,0,none⟩=some (.int .i64 a0_0):=(blk_cell BK122.out 0).trans rfl;have hcz55_1:w54.cell? ⟨gb122,1,none⟩=some (.slice A0_1 l0_1.length c0_1):=(blk_cell BK122.out 1).trans rfl;have hcz55_2:w54.cell? ⟨gb122,2,none⟩=some (.slice A0_2 l0_2.length c0_2):=(blk_cell BK122.out 2).trans rfl;have hcz55_3:w54.cell? ⟨gb122,3,none⟩=some (.slice A0_3 l0_3.length c0_3):=(blk_cell BK122.out 3).trans rfl;have hfz55_0:=blk_frozen BK122.out 0;have hfz55_1:=blk_frozen BK122.out 1;have hfz55_2:=blk_frozen BK122.out 2;have hfz55_3:=blk_frozen BK122.out 3)|(go_at_call 41;(with_reducible refine (spec_l3Term.calls kj20 _ _ l0_2 false _ ?side1 ?side2 A44.out).mono ?_);(case side1=>exact qz5);(case side2=>exact HC0_2.out);rintro e w56 ⟨rfl,hb⟩;have n0_:=Aside0.mk (blk_below (g:=gb122) (o:=.cells #[.int .i64 a0_0,.slice A0_1 l0_1.length c0_1,.slice A0_2 l0_2.length c0_2,.slice A0_3 l0_3.length c0_3] 29 (0,0)) qz28 hb);have n1_:=Aside0.mk (below_step qz10 hb);clear BK122 HB;have BK122:=n0_;have HB:=n1_;clear n0_ n1_;(try clear hb);(try clear hb2);(try clear hk);(try clear hi)))
         go_ret
         exact ⟨qz4,qz10⟩
       ·replace c43:=Bool.eq_false_iff.mpr c43
        subst c43
        have H1:(some false)=some r:=qz29
        clear H
        have H:=H1
        clear H1
        obtain rfl:=Option.some.inj H
        have hcz57_0:wc.cell? ⟨gb122,0,none⟩=some (.int .i64 a0_0):=(blk_cell BK122.out 0).trans rfl
        have hcz57_1:wc.cell? ⟨gb122,1,none⟩=some (.slice A0_1 l0_1.length c0_1):=(blk_cell BK122.out 1).trans rfl
        have hcz57_2:wc.cell? ⟨gb122,2,none⟩=some (.slice A0_2 l0_2.length c0_2):=(blk_cell BK122.out 2).trans rfl
        have hcz57_3:wc.cell? ⟨gb122,3,none⟩=some (.slice A0_3 l0_3.length c0_3):=(blk_cell BK122.out 3).trans rfl
        have hfz57_0:=blk_frozen BK122.out 0
        have hfz57_1:=blk_frozen BK122.out 1
        have hfz57_2:=blk_frozen BK122.out 2
        have hfz57_3:=blk_frozen BK122.out 3
        go_wp2_with (first|((with_reducible refine gate_callee (f:=41) rfl ?_);refine goesL_ (some 60) rfl rfl Tryd.func41 (by kernel_rfl) rfl #[.slice A0_1 l0_1.length c0_1] rfl qz2 ?_;(with_reducible refine (spec_l3Term.calls kj20 _ _ l0_1 false _ ?side1 ?side2 A42.out).mono ?_);(case side1=>exact qz3);(case side2=>exact HC0_1.out);rintro e w58 ⟨rfl,hb⟩;refine ⟨_,rfl,?_⟩;have n0_:=Aside0.mk (blk_below (g:=gb122) (o:=.cells #[.int .i64 a0_0,.slice A0_1 l0_1.length c0_1,.slice A0_2 l0_2.length c0_2,.slice A0_3 l0_3.length c0_3] 29 (0,0)) qz28 hb);have n1_:=Aside0.mk (below_step qz10 hb);clear BK122 HB;have BK122:=n0_;have HB:=n1_;clear n0_ n1_;(try clear hb);(try clear hb2);(try clear hk);(try clear hi)))
        go_ret
        exact ⟨qz4,qz10⟩
      ·rw [if_neg c41] at H
       have c41b0:(a0_0 == 5)=false:=beq_eq_false_iff_ne.mpr c41
       have c41b1:(a0_0 != 5)=true:=bne_iff_ne.mpr c41
       obtain rfl:=Option.some.inj H
       go_wp2
       go_ret
       exact ⟨qz4,qz10⟩

/-! ### spec_l1Plain: function 66 -/
def spec_l1Plain.l0:Nat→Int→ByteArray→Option (ByteArray)
 | 0,_,_=>none
 | k+1,x0,x3=>if x0 > 9 then ((some (([(wrap64 (48+(Int.tmod x0 10))) % 256]:List Int):List Int)).bind fun y130=>(if (strOfNums y130).size+x3.size≤9223372036854775807 then (spec_l1Plain.l0 k (wrap64 (Int.tdiv x0 10)) ((strOfNums y130)++x3)) else (none))) else ((some (([(wrap64 (48+x0)) % 256]:List Int):List Int)).bind fun y133=>(if (strOfNums y133).size+x3.size≤9223372036854775807 then (some ((strOfNums y133)++x3)) else (none)))
def spec_l1Plain.f (k:Nat) (a0:Int):Option (ByteArray):=spec_l1Plain.l0 k a0 (⟨#[]⟩:ByteArray)
set_option maxHeartbeats 8000000 in
set_option maxRecDepth 100000 in
theorem spec_l1Plain.calls (k:Nat) (a0:Int) (r:ByteArray) (w:World) (h:spec_l1Plain.f k a0=some r) :
  Calls Tryd.prog 66 #[.int .i64 a0] w fun e w'=>e = .returned (.string r)∧Below w.heap.size w w':=by
 have HB:=Aside0.mk (Below.refl w.heap.size w)
 have H:(spec_l1Plain.l0 k a0 (⟨#[]⟩:ByteArray))=some r:=h
 clear h
 have H':=Aside0.mk H
 clear H
 go_enter Tryd.func66,Tryd.ntmps66
 go_wp2
 go_loopg [0,3] k (fun kq v0 v3 w'=>∃ (x0_1:Int) (x3_1:ByteArray),v0 = .int .i64 x0_1∧v3 = .string x3_1∧Aside0 (spec_l1Plain.l0 kq x0_1 x3_1=some r)∧Aside0 (kq≤k)∧Aside0 (Below w.heap.size w w'))
 case atStart=>exact ⟨(a0),((⟨#[]⟩:ByteArray)),qz16,qz16,H',⟨Nat.le_refl _⟩,⟨qz6⟩⟩
 case round=>
  clear H'
  obtain ⟨x0_1,x3_1,rfl,rfl,HA,HK1,HB⟩:=hrel
  cases gk with
  | zero=>exact absurd HA.out (by simp [spec_l1Plain.l0])
  | succ k1=>
   have H:=HA.out
   clear HA
   simp only [spec_l1Plain.l0] at H
   by_cases c2:x0_1 > 9
   ·rw [if_pos c2] at H
    have c2b0:decide (9<x0_1)=true:=decide_eq_true c2
    clear c2
    obtain ⟨y130,hy130⟩:∃ y_:List Int,y_=(([(wrap64 (48+(Int.tmod x0_1 10))) % 256]:List Int)):=⟨_,rfl⟩
    replace H:(if (strOfNums y130).size+x3_1.size≤9223372036854775807 then (spec_l1Plain.l0 k1 (wrap64 (Int.tdiv x0_1 10)) ((strOfNums y130)++x3_1)) else (none))=some r:=by first|(rw [hy130];exact H)|exact H
    have Ny130:=Aside0.mk hy130
    clear hy130
    by_cases c3:(strOfNums y130).size+x3_1.size≤9223372036854775807
    ·rw [if_pos c3] at H
     have c3b0:=eq_true c3
     have c3b1:decide ((strOfNums y130).size+x3_1.size≤9223372036854775807)=true:=decide_eq_true c3
     try have c3b2:(9223372036854775807<(strOfNums y130).size+x3_1.size)=False:=eq_false (Nat.not_lt.2 c3)
     have H':=Aside0.mk H
     clear H
     go_wp2_with (first|((with_reducible refine gate_dst (N:=10) rfl ?_);refine Kd.R_lit (Kd.int .u8) _ 5 ?hg (N:=10) ?hd (xs:=([(wrap64 (48+(Int.tmod x0_1 10))) % 256]:List Int)) (inner:=[.int .u8 ((wrap64 (48+(Int.tmod x0_1 10))) % 256)]) (ok:=fun _=>True) (okp:=fun _=>True) ?hr ?hp (fun _ hk=>hk) trivial (Below.refl _ _) (Nat.le_refl _) (by simp) ?_;(case hd=>rfl);(case hg=>rfl);(case hr=>first|(go_simp;done)|(go_simp;rfl));(case hp=>exact (Reps.one (show Kd.M (Kd.int .u8) _ _ _ ((wrap64 (48+(Int.tmod x0_1 10))) % 256) [.int .u8 ((wrap64 (48+(Int.tmod x0_1 10))) % 256)] from rfl) (Reps.none _ _)));intro v131 w4 ho5 hb hg_ hnew_;clear hg_ hnew_;(first|rw [← Ny130.out] at ho5|(simp only [Int.reduceToNat] at ho5;rw [← Ny130.out] at ho5));have n0_:=Aside0.mk (Kd.R_lower ho5 (below_size qz1));have n1_:=Aside0.mk (below_step qz1 hb);clear HB;have HO132:=n0_;have HB:=n1_;clear n0_ n1_ hb ho5;have hcv6:=own_string (P:=Tryd.prog) Tryd.underlying33 Tryd.underlying5 Tryd.underlying9 (Kd.own_of_R HO132.out)))
     go_roundg k1
     case measure=>have:=HK1.out;omega
     case rel=>exact ⟨(wrap64 (Int.tdiv x0_1 10)),((strOfNums y130)++x3_1),qz16,qz16,H',⟨by have:=HK1.out;omega⟩,⟨qz6⟩⟩
    ·rw [if_neg c3] at H
     exact absurd H (by simp)
   ·rw [if_neg c2] at H
    have c2b0:decide (9<x0_1)=false:=decide_eq_false c2
    clear c2
    obtain ⟨y133,hy133⟩:∃ y_:List Int,y_=(([(wrap64 (48+x0_1)) % 256]:List Int)):=⟨_,rfl⟩
    replace H:(if (strOfNums y133).size+x3_1.size≤9223372036854775807 then (some ((strOfNums y133)++x3_1)) else (none))=some r:=by first|(rw [hy133];exact H)|exact H
    have Ny133:=Aside0.mk hy133
    clear hy133
    by_cases c7:(strOfNums y133).size+x3_1.size≤9223372036854775807
    ·rw [if_pos c7] at H
     have c7b0:=eq_true c7
     have c7b1:decide ((strOfNums y133).size+x3_1.size≤9223372036854775807)=true:=decide_eq_true c7
     try have c7b2:(9223372036854775807<(strOfNums y133).size+x3_1.size)=False:=eq_false (Nat.not_lt.2 c7)
     obtain rfl:=Option.some.inj H
     go_wp2_with (first|((with_reducible refine gate_dst (N:=19) rfl ?_);refine Kd.R_lit (Kd.int .u8) _ 5 ?hg (N:=19) ?hd (xs:=([(wrap64 (48+x0_1)) % 256]:List Int)) (inner:=[.int .u8 ((wrap64 (48+x0_1)) % 256)]) (ok:=fun _=>True) (okp:=fun _=>True) ?hr ?hp (fun _ hk=>hk) trivial (Below.refl _ _) (Nat.le_refl _) (by simp) ?_;(case hd=>rfl);(case hg=>rfl);(case hr=>first|(go_simp;done)|(go_simp;rfl));(case hp=>exact (Reps.one (show Kd.M (Kd.int .u8) _ _ _ ((wrap64 (48+x0_1)) % 256) [.int .u8 ((wrap64 (48+x0_1)) % 256)] from rfl) (Reps.none _ _)));intro v134 w8 ho9 hb hg_ hnew_;clear hg_ hnew_;(first|rw [← Ny133.out] at ho9|(simp only [Int.reduceToNat] at ho9;rw [← Ny133.out] at ho9));have n0_:=Aside0.mk (Kd.R_lower ho9 (below_size qz1));have n1_:=Aside0.mk (below_step qz1 hb);clear HB;have HO135:=n0_;have HB:=n1_;clear n0_ n1_ hb ho9;have hcv10:=own_string (P:=Tryd.prog) Tryd.underlying33 Tryd.underlying5 Tryd.underlying9 (Kd.own_of_R HO135.out)))
     go_ret
     exact ⟨qz4,qz6⟩
    ·rw [if_neg c7] at H
     exact absurd H (by simp)

/-! ### spec_l1Word: function 42 -/
def spec_l1Word.f (k:Nat) (a0_0:Int) (a0_1:Int) (a0_2:ByteArray):Option (ByteArray):=if a0_0=1 then ((spec_l1Plain.f k a0_1).bind fun t137=>(if 1+t137.size≤9223372036854775807 then (some ((⟨#[88]⟩:ByteArray)++t137)) else (none))) else (if a0_0=2 then (if a0_1<0 then ((spec_l1Plain.f k (wrap64 (-a0_1))).bind fun t138=>(if 1+t138.size≤9223372036854775807 then (some ((⟨#[45]⟩:ByteArray)++t138)) else (none))) else ((spec_l1Plain.f k a0_1).bind fun t139=>(some t139))) else (some a0_2))
set_option maxHeartbeats 8000000 in
set_option maxRecDepth 100000 in
theorem spec_l1Word.calls (k:Nat) (a0_0:Int) (a0_1:Int) (a0_2:ByteArray) (r:ByteArray) (w:World) (h:spec_l1Word.f k a0_0 a0_1 a0_2=some r) :
  Calls Tryd.prog 42 #[.agg #[.int .i64 a0_0,.int .i64 a0_1,.string a0_2]] w fun e w'=>e = .returned (.string r)∧Below w.heap.size w w':=by
 have hu44:=Tryd.underlying44
 have HB:=Aside0.mk (Below.refl w.heap.size w)
 have H:(if a0_0=1 then ((spec_l1Plain.f k a0_1).bind fun t137=>(if 1+t137.size≤9223372036854775807 then (some ((⟨#[88]⟩:ByteArray)++t137)) else (none))) else (if a0_0=2 then (if a0_1<0 then ((spec_l1Plain.f k (wrap64 (-a0_1))).bind fun t138=>(if 1+t138.size≤9223372036854775807 then (some ((⟨#[45]⟩:ByteArray)++t138)) else (none))) else ((spec_l1Plain.f k a0_1).bind fun t139=>(some t139))) else (some a0_2)))=some r:=h
 clear h
 by_cases c2:a0_0=1
 ·rw [if_pos c2] at H
  have c2b0:(a0_0 == 1)=true:=beq_iff_eq.mpr c2
  have c2b1:(a0_0 != 1)=false:=bne_eq_false_iff_eq.mpr c2
  clear c2
  replace H:=Option.bind_eq_some_iff.mp H
  obtain ⟨t137,A30,H⟩:=H
  try dsimp only at H
  have A3:=Aside0.mk A30
  clear A30
  by_cases c4:1+t137.size≤9223372036854775807
  ·rw [if_pos c4] at H
   have c4b0:=eq_true c4
   have c4b1:decide (1+t137.size≤9223372036854775807)=true:=decide_eq_true c4
   try have c4b2:(9223372036854775807<1+t137.size)=False:=eq_false (Nat.not_lt.2 c4)
   obtain rfl:=Option.some.inj H
   go_enter Tryd.func42,Tryd.ntmps42
   go_wp2_with (first|((with_reducible refine gate_dst (N:=1) rfl ?_);refine box_event ?hg (N:=1) ?hd (cs:=#[.int .i64 a0_0,.int .i64 a0_1,.string a0_2]) (t:=44) ?hr ?_;(case hd=>rfl);(case hg=>rfl);(case hr=>first|(go_simp;done)|(go_simp;rfl));intro gb136 hg w5 hbox hb;have n0_:=Aside0.mk (below_step qz1 hb);have n1_:=Aside0.mk (hbox);have n2_:=Aside0.mk ((by rw [hg];exact (below_size qz1):w.heap.size≤gb136));have n3_:=Aside0.mk ((by rw [hg];exact (below_size qz1):w.heap.size≤gb136));clear HB;have HB:=n0_;have BK136:=n1_;have GW136:=n2_;have GE136:=n3_;clear n0_ n1_ n2_ n3_ hb hbox hg;have hcz6_0:w5.cell? ⟨gb136,0,none⟩=some (.int .i64 a0_0):=(blk_cell BK136.out 0).trans rfl;have hcz6_1:w5.cell? ⟨gb136,1,none⟩=some (.int .i64 a0_1):=(blk_cell BK136.out 1).trans rfl;have hcz6_2:w5.cell? ⟨gb136,2,none⟩=some (.string a0_2):=(blk_cell BK136.out 2).trans rfl;have hfz6_0:=blk_frozen BK136.out 0;have hfz6_1:=blk_frozen BK136.out 1;have hfz6_2:=blk_frozen BK136.out 2)|((with_reducible refine gate_callee (f:=66) rfl ?_);refine goesL_ (some 9) rfl rfl Tryd.func66 (by kernel_rfl) rfl #[.int .i64 a0_1] rfl qz2 ?_;(with_reducible refine (spec_l1Plain.calls k a0_1 t137 _ A3.out).mono ?_);rintro e w7 ⟨rfl,hb⟩;refine ⟨_,rfl,?_⟩;have n0_:=Aside0.mk (blk_below (g:=gb136) (o:=.cells #[.int .i64 a0_0,.int .i64 a0_1,.string a0_2] 44 (0,0)) qz79 hb);have n1_:=Aside0.mk (below_step qz38 hb);clear BK136 HB;have BK136:=n0_;have HB:=n1_;clear n0_ n1_;(try clear hb);(try clear hb2);(try clear hk);(try clear hi)))
   go_ret
   exact ⟨qz4,qz38⟩
  ·rw [if_neg c4] at H
   exact absurd H (by simp)
 ·rw [if_neg c2] at H
  have c2b0:(a0_0 == 1)=false:=beq_eq_false_iff_ne.mpr c2
  have c2b1:(a0_0 != 1)=true:=bne_iff_ne.mpr c2
  by_cases c8:a0_0=2
  ·rw [if_pos c8] at H
   have c8b0:(a0_0 == 2)=true:=beq_iff_eq.mpr c8
   have c8b1:(a0_0 != 2)=false:=bne_eq_false_iff_eq.mpr c8
   clear c8
   by_cases c9:a0_1<0
   ·rw [if_pos c9] at H
    have c9b0:decide (a0_1<0)=true:=decide_eq_true c9
    clear c9
    replace H:=Option.bind_eq_some_iff.mp H
    obtain ⟨t138,A100,H⟩:=H
    try dsimp only at H
    have A10:=Aside0.mk A100
    clear A100
    by_cases c11:1+t138.size≤9223372036854775807
    ·rw [if_pos c11] at H
     have c11b0:=eq_true c11
     have c11b1:decide (1+t138.size≤9223372036854775807)=true:=decide_eq_true c11
     try have c11b2:(9223372036854775807<1+t138.size)=False:=eq_false (Nat.not_lt.2 c11)
     obtain rfl:=Option.some.inj H
     go_enter Tryd.func42,Tryd.ntmps42
     go_wp2_with (first|((with_reducible refine gate_dst (N:=1) rfl ?_);refine box_event ?hg (N:=1) ?hd (cs:=#[.int .i64 a0_0,.int .i64 a0_1,.string a0_2]) (t:=44) ?hr ?_;(case hd=>rfl);(case hg=>rfl);(case hr=>first|(go_simp;done)|(go_simp;rfl));intro gb136 hg w12 hbox hb;have n0_:=Aside0.mk (below_step qz1 hb);have n1_:=Aside0.mk (hbox);have n2_:=Aside0.mk ((by rw [hg];exact (below_size qz1):w.heap.size≤gb136));have n3_:=Aside0.mk ((by rw [hg];exact (below_size qz1):w.heap.size≤gb136));clear HB;have HB:=n0_;have BK136:=n1_;have GW136:=n2_;have GE136:=n3_;clear n0_ n1_ n2_ n3_ hb hbox hg;have hcz13_0:w12.cell? ⟨gb136,0,none⟩=some (.int .i64 a0_0):=(blk_cell BK136.out 0).trans rfl;have hcz13_1:w12.cell? ⟨gb136,1,none⟩=some (.int .i64 a0_1):=(blk_cell BK136.out 1).trans rfl;have hcz13_2:w12.cell? ⟨gb136,2,none⟩=some (.string a0_2):=(blk_cell BK136.out 2).trans rfl;have hfz13_0:=blk_frozen BK136.out 0;have hfz13_1:=blk_frozen BK136.out 1;have hfz13_2:=blk_frozen BK136.out 2)|((with_reducible refine gate_callee (f:=66) rfl ?_);refine goesL_ (some 19) rfl rfl Tryd.func66 (by kernel_rfl) rfl #[.int .i64 (wrap64 (-a0_1))] rfl qz2 ?_;(with_reducible refine (spec_l1Plain.calls k (wrap64 (-a0_1)) t138 _ A10.out).mono ?_);rintro e w14 ⟨rfl,hb⟩;refine ⟨_,rfl,?_⟩;have n0_:=Aside0.mk (blk_below (g:=gb136) (o:=.cells #[.int .i64 a0_0,.int .i64 a0_1,.string a0_2] 44 (0,0)) qz79 hb);have n1_:=Aside0.mk (below_step qz38 hb);clear BK136 HB;have BK136:=n0_;have HB:=n1_;clear n0_ n1_;(try clear hb);(try clear hb2);(try clear hk);(try clear hi)))
     go_ret
     exact ⟨qz4,qz38⟩
    ·rw [if_neg c11] at H
     exact absurd H (by simp)
   ·rw [if_neg c9] at H
    have c9b0:decide (a0_1<0)=false:=decide_eq_false c9
    clear c9
    replace H:=Option.bind_eq_some_iff.mp H
    obtain ⟨t139,A150,H⟩:=H
    try dsimp only at H
    have A15:=Aside0.mk A150
    clear A150
    obtain rfl:=Option.some.inj H
    go_enter Tryd.func42,Tryd.ntmps42
    go_wp2_with (first|((with_reducible refine gate_dst (N:=1) rfl ?_);refine box_event ?hg (N:=1) ?hd (cs:=#[.int .i64 a0_0,.int .i64 a0_1,.string a0_2]) (t:=44) ?hr ?_;(case hd=>rfl);(case hg=>rfl);(case hr=>first|(go_simp;done)|(go_simp;rfl));intro gb136 hg w16 hbox hb;have n0_:=Aside0.mk (below_step qz1 hb);have n1_:=Aside0.mk (hbox);have n2_:=Aside0.mk ((by rw [hg];exact (below_size qz1):w.heap.size≤gb136));have n3_:=Aside0.mk ((by rw [hg];exact (below_size qz1):w.heap.size≤gb136));clear HB;have HB:=n0_;have BK136:=n1_;have GW136:=n2_;have GE136:=n3_;clear n0_ n1_ n2_ n3_ hb hbox hg;have hcz17_0:w16.cell? ⟨gb136,0,none⟩=some (.int .i64 a0_0):=(blk_cell BK136.out 0).trans rfl;have hcz17_1:w16.cell? ⟨gb136,1,none⟩=some (.int .i64 a0_1):=(blk_cell BK136.out 1).trans rfl;have hcz17_2:w16.cell? ⟨gb136,2,none⟩=some (.string a0_2):=(blk_cell BK136.out 2).trans rfl;have hfz17_0:=blk_frozen BK136.out 0;have hfz17_1:=blk_frozen BK136.out 1;have hfz17_2:=blk_frozen BK136.out 2)|((with_reducible refine gate_callee (f:=66) rfl ?_);refine goesL_ (some 23) rfl rfl Tryd.func66 (by kernel_rfl) rfl #[.int .i64 a0_1] rfl qz2 ?_;(with_reducible refine (spec_l1Plain.calls k a0_1 t139 _ A15.out).mono ?_);rintro e w18 ⟨rfl,hb⟩;refine ⟨_,rfl,?_⟩;have n0_:=Aside0.mk (blk_below (g:=gb136) (o:=.cells #[.int .i64 a0_0,.int .i64 a0_1,.string a0_2] 44 (0,0)) qz79 hb);have n1_:=Aside0.mk (below_step qz38 hb);clear BK136 HB;have BK136:=n0_;have HB:=n1_;clear n0_ n1_;(try clear hb);(try clear hb2);(try clear hk);(try clear hi)))
    go_ret
    exact ⟨qz4,qz38⟩
  ·rw [if_neg c8] at H
   have c8b0:(a0_0 == 2)=false:=beq_eq_false_iff_ne.mpr c8
   have c8b1:(a0_0 != 2)=true:=bne_iff_ne.mpr c8
   obtain rfl:=Option.some.inj H
   go_enter Tryd.func42,Tryd.ntmps42
   go_wp2_with (first|((with_reducible refine gate_dst (N:=1) rfl ?_);refine box_event ?hg (N:=1) ?hd (cs:=#[.int .i64 a0_0,.int .i64 a0_1,.string a0_2]) (t:=44) ?hr ?_;(case hd=>rfl);(case hg=>rfl);(case hr=>first|(go_simp;done)|(go_simp;rfl));intro gb136 hg w19 hbox hb;have n0_:=Aside0.mk (below_step qz1 hb);have n1_:=Aside0.mk (hbox);have n2_:=Aside0.mk ((by rw [hg];exact (below_size qz1):w.heap.size≤gb136));have n3_:=Aside0.mk ((by rw [hg];exact (below_size qz1):w.heap.size≤gb136));clear HB;have HB:=n0_;have BK136:=n1_;have GW136:=n2_;have GE136:=n3_;clear n0_ n1_ n2_ n3_ hb hbox hg;have hcz20_0:w19.cell? ⟨gb136,0,none⟩=some (.int .i64 a0_0):=(blk_cell BK136.out 0).trans rfl;have hcz20_1:w19.cell? ⟨gb136,1,none⟩=some (.int .i64 a0_1):=(blk_cell BK136.out 1).trans rfl;have hcz20_2:w19.cell? ⟨gb136,2,none⟩=some (.string a0_2):=(blk_cell BK136.out 2).trans rfl;have hfz20_0:=blk_frozen BK136.out 0;have hfz20_1:=blk_frozen BK136.out 1;have hfz20_2:=blk_frozen BK136.out 2))
   go_ret
   exact ⟨qz4,qz38⟩

end Go.Proofs.YtlhniagacegbeaaDoor.P
