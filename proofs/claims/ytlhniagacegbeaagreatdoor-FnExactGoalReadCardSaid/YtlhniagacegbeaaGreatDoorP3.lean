/- Contracts of functions of the program: each as a Lean function, and that its call does what that says; printed by cprint.py (this session) over print.py of the kit. Conditions: the hypotheses of each theorem. -/
import Derived.Test.YtlhniagacegbeaaGreatDoorVZ
import Derived.Test.YtlhniagacegbeaaGreatDoorP0
import Derived.Test.YtlhniagacegbeaaGreatDoorP2
namespace Go.Proofs.YtlhniagacegbeaaGreatDoor.P
open Go.RowKit Go.Proofs.YtlhniagacegbeaaGreatDoorW.PrintWords Go.Proofs.YtlhniagacegbeaaGreatDoorW.PrintLast Go.Proofs.YtlhniagacegbeaaGreatDoorW.PrintMore
attribute [local go_sem] max2_int min2_int max_two min_two max_three min_three max_four min_four   -- for this text's walks alone
set_option linter.unusedVariables false
set_option linter.unusedSimpArgs false

/-! ### spec_GoalOk: function 17 -/
def spec_GoalOk.j0:Nat→Int→Bool→Int→List (S63)→List (S63)→List (S63)→Option (Bool)
 | 0,_,_,_,_,_,_=>none
 | k+1,x4,x39,x116000,x116001,x116002,x116003=>if x39=true then ((spec_l3Term.f k x116001).bind fun t118=>(if t118=true then ((spec_l3Term.f k x116002).bind fun t119=>(if t119=true then (some ((x116003.length:Int) == 0)) else (some false))) else (some false))) else (if x4=5 then ((spec_l3Term.f k x116001).bind fun t120=>(if t120=true then ((spec_l3Term.f k x116002).bind fun t121=>(if t121=true then ((spec_l3Term.f k x116003).bind fun t122=>(some t122)) else (some false))) else (some false))) else (some false))
def spec_GoalOk.f (k:Nat) (a0_0:Int) (l0_1:List (S63)) (l0_2:List (S63)) (l0_3:List (S63)):Option (Bool):=if a0_0=1 then ((spec_l3Term.f k l0_1).bind fun t116=>(if t116=true then ((spec_l3Call.f l0_1).bind fun t117=>(if t117=true then (some ((wrap64 ((l0_2.length:Int)+(l0_3.length:Int))) == 0)) else (some false))) else (some false))) else (if a0_0=3 then (some ((wrap64 ((wrap64 ((l0_1.length:Int)+(l0_2.length:Int)))+(l0_3.length:Int))) == 0)) else (if a0_0=2 then (spec_GoalOk.j0 k a0_0 (a0_0 == 2) a0_0 l0_1 l0_2 l0_3) else (spec_GoalOk.j0 k a0_0 (a0_0 == 4) a0_0 l0_1 l0_2 l0_3)))
set_option maxHeartbeats 8000000 in
set_option maxRecDepth 100000 in
theorem spec_GoalOk.calls (k:Nat) (a0_0:Int) (A0_1:Option Addr) (c0_1:Nat) (l0_1:List (S63)) (A0_2:Option Addr) (c0_2:Nat) (l0_2:List (S63)) (A0_3:Option Addr) (c0_3:Nat) (l0_3:List (S63)) (r:Bool) (w:World) (hr0_1:Kd.C k63 w A0_1 l0_1.length l0_1) (hc0_1:l0_1.length≤c0_1) (hr0_2:Kd.C k63 w A0_2 l0_2.length l0_2) (hc0_2:l0_2.length≤c0_2) (hr0_3:Kd.C k63 w A0_3 l0_3.length l0_3) (hc0_3:l0_3.length≤c0_3) (h:spec_GoalOk.f k a0_0 l0_1 l0_2 l0_3=some r) :
  Calls Tryz.prog 17 #[.agg #[.int .i64 a0_0,.slice A0_1 l0_1.length c0_1,.slice A0_2 l0_2.length c0_2,.slice A0_3 l0_3.length c0_3]] w fun e w'=>e = .returned (.bool r)∧Below w.heap.size w w':=by
 have hu24:=Tryz.underlying24
 have HR0_1:=Aside0.mk hr0_1
 have HC0_1:=Aside0.mk hc0_1
 clear hr0_1 hc0_1
 have HR0_2:=Aside0.mk hr0_2
 have HC0_2:=Aside0.mk hc0_2
 clear hr0_2 hc0_2
 have HR0_3:=Aside0.mk hr0_3
 have HC0_3:=Aside0.mk hc0_3
 clear hr0_3 hc0_3
 have HB:=Aside0.mk (Below.refl w.heap.size w)
 have H:(if a0_0=1 then ((spec_l3Term.f k l0_1).bind fun t116=>(if t116=true then ((spec_l3Call.f l0_1).bind fun t117=>(if t117=true then (some ((wrap64 ((l0_2.length:Int)+(l0_3.length:Int))) == 0)) else (some false))) else (some false))) else (if a0_0=3 then (some ((wrap64 ((wrap64 ((l0_1.length:Int)+(l0_2.length:Int)))+(l0_3.length:Int))) == 0)) else (if a0_0=2 then (spec_GoalOk.j0 k a0_0 (a0_0 == 2) a0_0 l0_1 l0_2 l0_3) else (spec_GoalOk.j0 k a0_0 (a0_0 == 4) a0_0 l0_1 l0_2 l0_3))))=some r:=h
 clear h
 by_cases c2:a0_0=1
 ·rw [if_pos c2] at H
  have c2b0:(a0_0 == 1)=true:=beq_iff_eq.mpr c2
  have c2b1:(a0_0 != 1)=false:=bne_eq_false_iff_eq.mpr c2
  clear c2
  replace H:=Option.bind_eq_some_iff.mp H
  obtain ⟨t116,A30,H⟩:=H
  try dsimp only at H
  have A3:=Aside0.mk A30
  clear A30
  by_cases c4:t116=true
  ·subst c4
   have H1:((spec_l3Call.f l0_1).bind fun t117=>(if t117=true then (some ((wrap64 ((l0_2.length:Int)+(l0_3.length:Int))) == 0)) else (some false)))=some r:=qz57
   clear H
   have H:=H1
   clear H1
   replace H:=Option.bind_eq_some_iff.mp H
   obtain ⟨t117,A50,H⟩:=H
   try dsimp only at H
   have A5:=Aside0.mk A50
   clear A50
   by_cases c6:t117=true
   ·subst c6
    have H1:(some ((wrap64 ((l0_2.length:Int)+(l0_3.length:Int))) == 0))=some r:=qz57
    clear H
    have H:=H1
    clear H1
    obtain rfl:=Option.some.inj H
    go_enter Tryz.func17,Tryz.ntmps17
    go_wp2_with (first|((with_reducible refine gate_dst (N:=1) rfl ?_);(try (refine gate_guard (by rfl) ?_;dsimp only));refine box_event ?hg (N:=1) ?hd (cs:=#[.int .i64 a0_0,.slice A0_1 l0_1.length c0_1,.slice A0_2 l0_2.length c0_2,.slice A0_3 l0_3.length c0_3]) (t:=24) ?hr ?_;(case hd=>rfl);(case hg=>rfl);(case hr=>first|(go_simp;done)|(go_simp;rfl));intro gb115 hg w7 hbox hb;have n0_:=Aside0.mk (below_step qz1 hb);have n1_:=Aside0.mk (hbox);have n2_:=Aside0.mk ((by rw [hg];exact (below_size qz1):w.heap.size≤gb115));have n3_:=Aside0.mk ((by rw [hg];exact (below_size qz1):w.heap.size≤gb115));clear HB;have HB:=n0_;have BK115:=n1_;have GW115:=n2_;have GE115:=n3_;clear n0_ n1_ n2_ n3_ hb hbox hg;have hcz8_0:w7.cell? ⟨gb115,0,none⟩=some (.int .i64 a0_0):=(blk_cell BK115.out 0).trans rfl;have hcz8_1:w7.cell? ⟨gb115,1,none⟩=some (.slice A0_1 l0_1.length c0_1):=(blk_cell BK115.out 1).trans rfl;have hcz8_2:w7.cell? ⟨gb115,2,none⟩=some (.slice A0_2 l0_2.length c0_2):=(blk_cell BK115.out 2).trans rfl;have hcz8_3:w7.cell? ⟨gb115,3,none⟩=some (.slice A0_3 l0_3.length c0_3):=(blk_cell BK115.out 3).trans rfl;have hfz8_0:=blk_frozen BK115.out 0;have hfz8_1:=blk_frozen BK115.out 1;have hfz8_2:=blk_frozen BK115.out 2;have hfz8_3:=blk_frozen BK115.out 3)|((with_reducible refine gate_callee (f:=40) rfl ?_);refine goesL_ (some 9) rfl rfl Tryz.func40 (by kernel_rfl) rfl #[.slice A0_1 l0_1.length c0_1] rfl qz2 ?_;(with_reducible refine (spec_l3Term.calls k _ _ l0_1 true _ ?side1 ?side2 A3.out).mono ?_);(case side1=>exact qz6);(case side2=>exact HC0_1.out);rintro e w9 ⟨rfl,hb⟩;refine ⟨_,rfl,?_⟩;have n0_:=Aside0.mk (blk_below (g:=gb115) (o:=.cells #[.int .i64 a0_0,.slice A0_1 l0_1.length c0_1,.slice A0_2 l0_2.length c0_2,.slice A0_3 l0_3.length c0_3] 24 (0,0)) qz34 hb);have n1_:=Aside0.mk (below_step qz11 hb);clear BK115 HB;have BK115:=n0_;have HB:=n1_;clear n0_ n1_;(try clear hb);(try clear hb2);(try clear hk);(try clear hi);have hcz10_0:w9.cell? ⟨gb115,0,none⟩=some (.int .i64 a0_0):=(blk_cell BK115.out 0).trans rfl;have hcz10_1:w9.cell? ⟨gb115,1,none⟩=some (.slice A0_1 l0_1.length c0_1):=(blk_cell BK115.out 1).trans rfl;have hcz10_2:w9.cell? ⟨gb115,2,none⟩=some (.slice A0_2 l0_2.length c0_2):=(blk_cell BK115.out 2).trans rfl;have hcz10_3:w9.cell? ⟨gb115,3,none⟩=some (.slice A0_3 l0_3.length c0_3):=(blk_cell BK115.out 3).trans rfl;have hfz10_0:=blk_frozen BK115.out 0;have hfz10_1:=blk_frozen BK115.out 1;have hfz10_2:=blk_frozen BK115.out 2;have hfz10_3:=blk_frozen BK115.out 3)|(go_at_call 41;(with_reducible refine (spec_l3Call.calls _ _ l0_1 true _ ?side1 ?side2 A5.out).mono ?_);(case side1=>exact qz6);(case side2=>exact HC0_1.out);rintro e w' ⟨rfl,⟨nd,rfl⟩⟩))
    go_ret
    exact ⟨qz4,qz11⟩
   ·replace c6:=Bool.eq_false_iff.mpr c6
    subst c6
    have H1:(some false)=some r:=qz23
    clear H
    have H:=H1
    clear H1
    obtain rfl:=Option.some.inj H
    go_enter Tryz.func17,Tryz.ntmps17
    go_wp2_with (first|((with_reducible refine gate_dst (N:=1) rfl ?_);(try (refine gate_guard (by rfl) ?_;dsimp only));refine box_event ?hg (N:=1) ?hd (cs:=#[.int .i64 a0_0,.slice A0_1 l0_1.length c0_1,.slice A0_2 l0_2.length c0_2,.slice A0_3 l0_3.length c0_3]) (t:=24) ?hr ?_;(case hd=>rfl);(case hg=>rfl);(case hr=>first|(go_simp;done)|(go_simp;rfl));intro gb115 hg w11 hbox hb;have n0_:=Aside0.mk (below_step qz1 hb);have n1_:=Aside0.mk (hbox);have n2_:=Aside0.mk ((by rw [hg];exact (below_size qz1):w.heap.size≤gb115));have n3_:=Aside0.mk ((by rw [hg];exact (below_size qz1):w.heap.size≤gb115));clear HB;have HB:=n0_;have BK115:=n1_;have GW115:=n2_;have GE115:=n3_;clear n0_ n1_ n2_ n3_ hb hbox hg;have hcz12_0:w11.cell? ⟨gb115,0,none⟩=some (.int .i64 a0_0):=(blk_cell BK115.out 0).trans rfl;have hcz12_1:w11.cell? ⟨gb115,1,none⟩=some (.slice A0_1 l0_1.length c0_1):=(blk_cell BK115.out 1).trans rfl;have hcz12_2:w11.cell? ⟨gb115,2,none⟩=some (.slice A0_2 l0_2.length c0_2):=(blk_cell BK115.out 2).trans rfl;have hcz12_3:w11.cell? ⟨gb115,3,none⟩=some (.slice A0_3 l0_3.length c0_3):=(blk_cell BK115.out 3).trans rfl;have hfz12_0:=blk_frozen BK115.out 0;have hfz12_1:=blk_frozen BK115.out 1;have hfz12_2:=blk_frozen BK115.out 2;have hfz12_3:=blk_frozen BK115.out 3)|((with_reducible refine gate_callee (f:=40) rfl ?_);refine goesL_ (some 9) rfl rfl Tryz.func40 (by kernel_rfl) rfl #[.slice A0_1 l0_1.length c0_1] rfl qz2 ?_;(with_reducible refine (spec_l3Term.calls k _ _ l0_1 true _ ?side1 ?side2 A3.out).mono ?_);(case side1=>exact qz6);(case side2=>exact HC0_1.out);rintro e w13 ⟨rfl,hb⟩;refine ⟨_,rfl,?_⟩;have n0_:=Aside0.mk (blk_below (g:=gb115) (o:=.cells #[.int .i64 a0_0,.slice A0_1 l0_1.length c0_1,.slice A0_2 l0_2.length c0_2,.slice A0_3 l0_3.length c0_3] 24 (0,0)) qz34 hb);have n1_:=Aside0.mk (below_step qz11 hb);clear BK115 HB;have BK115:=n0_;have HB:=n1_;clear n0_ n1_;(try clear hb);(try clear hb2);(try clear hk);(try clear hi);have hcz14_0:w13.cell? ⟨gb115,0,none⟩=some (.int .i64 a0_0):=(blk_cell BK115.out 0).trans rfl;have hcz14_1:w13.cell? ⟨gb115,1,none⟩=some (.slice A0_1 l0_1.length c0_1):=(blk_cell BK115.out 1).trans rfl;have hcz14_2:w13.cell? ⟨gb115,2,none⟩=some (.slice A0_2 l0_2.length c0_2):=(blk_cell BK115.out 2).trans rfl;have hcz14_3:w13.cell? ⟨gb115,3,none⟩=some (.slice A0_3 l0_3.length c0_3):=(blk_cell BK115.out 3).trans rfl;have hfz14_0:=blk_frozen BK115.out 0;have hfz14_1:=blk_frozen BK115.out 1;have hfz14_2:=blk_frozen BK115.out 2;have hfz14_3:=blk_frozen BK115.out 3)|(go_at_call 41;(with_reducible refine (spec_l3Call.calls _ _ l0_1 false _ ?side1 ?side2 A5.out).mono ?_);(case side1=>exact qz6);(case side2=>exact HC0_1.out);rintro e w' ⟨rfl,⟨nd,rfl⟩⟩))
    go_ret
    exact ⟨qz4,qz11⟩
  ·replace c4:=Bool.eq_false_iff.mpr c4
   subst c4
   have H1:(some false)=some r:=qz23
   clear H
   have H:=H1
   clear H1
   obtain rfl:=Option.some.inj H
   go_enter Tryz.func17,Tryz.ntmps17
   go_wp2_with (first|((with_reducible refine gate_dst (N:=1) rfl ?_);(try (refine gate_guard (by rfl) ?_;dsimp only));refine box_event ?hg (N:=1) ?hd (cs:=#[.int .i64 a0_0,.slice A0_1 l0_1.length c0_1,.slice A0_2 l0_2.length c0_2,.slice A0_3 l0_3.length c0_3]) (t:=24) ?hr ?_;(case hd=>rfl);(case hg=>rfl);(case hr=>first|(go_simp;done)|(go_simp;rfl));intro gb115 hg w15 hbox hb;have n0_:=Aside0.mk (below_step qz1 hb);have n1_:=Aside0.mk (hbox);have n2_:=Aside0.mk ((by rw [hg];exact (below_size qz1):w.heap.size≤gb115));have n3_:=Aside0.mk ((by rw [hg];exact (below_size qz1):w.heap.size≤gb115));clear HB;have HB:=n0_;have BK115:=n1_;have GW115:=n2_;have GE115:=n3_;clear n0_ n1_ n2_ n3_ hb hbox hg;have hcz16_0:w15.cell? ⟨gb115,0,none⟩=some (.int .i64 a0_0):=(blk_cell BK115.out 0).trans rfl;have hcz16_1:w15.cell? ⟨gb115,1,none⟩=some (.slice A0_1 l0_1.length c0_1):=(blk_cell BK115.out 1).trans rfl;have hcz16_2:w15.cell? ⟨gb115,2,none⟩=some (.slice A0_2 l0_2.length c0_2):=(blk_cell BK115.out 2).trans rfl;have hcz16_3:w15.cell? ⟨gb115,3,none⟩=some (.slice A0_3 l0_3.length c0_3):=(blk_cell BK115.out 3).trans rfl;have hfz16_0:=blk_frozen BK115.out 0;have hfz16_1:=blk_frozen BK115.out 1;have hfz16_2:=blk_frozen BK115.out 2;have hfz16_3:=blk_frozen BK115.out 3)|((with_reducible refine gate_callee (f:=40) rfl ?_);refine goesL_ (some 9) rfl rfl Tryz.func40 (by kernel_rfl) rfl #[.slice A0_1 l0_1.length c0_1] rfl qz2 ?_;(with_reducible refine (spec_l3Term.calls k _ _ l0_1 false _ ?side1 ?side2 A3.out).mono ?_);(case side1=>exact qz6);(case side2=>exact HC0_1.out);rintro e w17 ⟨rfl,hb⟩;refine ⟨_,rfl,?_⟩;have n0_:=Aside0.mk (blk_below (g:=gb115) (o:=.cells #[.int .i64 a0_0,.slice A0_1 l0_1.length c0_1,.slice A0_2 l0_2.length c0_2,.slice A0_3 l0_3.length c0_3] 24 (0,0)) qz34 hb);have n1_:=Aside0.mk (below_step qz11 hb);clear BK115 HB;have BK115:=n0_;have HB:=n1_;clear n0_ n1_;(try clear hb);(try clear hb2);(try clear hk);(try clear hi)))
   go_ret
   exact ⟨qz4,qz11⟩
 ·rw [if_neg c2] at H
  have c2b0:(a0_0 == 1)=false:=beq_eq_false_iff_ne.mpr c2
  have c2b1:(a0_0 != 1)=true:=bne_iff_ne.mpr c2
  by_cases c18:a0_0=3
  ·rw [if_pos c18] at H
   have c18b0:(a0_0 == 3)=true:=beq_iff_eq.mpr c18
   have c18b1:(a0_0 != 3)=false:=bne_eq_false_iff_eq.mpr c18
   clear c18
   obtain rfl:=Option.some.inj H
   go_enter Tryz.func17,Tryz.ntmps17
   go_wp2_with (first|((with_reducible refine gate_dst (N:=1) rfl ?_);(try (refine gate_guard (by rfl) ?_;dsimp only));refine box_event ?hg (N:=1) ?hd (cs:=#[.int .i64 a0_0,.slice A0_1 l0_1.length c0_1,.slice A0_2 l0_2.length c0_2,.slice A0_3 l0_3.length c0_3]) (t:=24) ?hr ?_;(case hd=>rfl);(case hg=>rfl);(case hr=>first|(go_simp;done)|(go_simp;rfl));intro gb115 hg w19 hbox hb;have n0_:=Aside0.mk (below_step qz1 hb);have n1_:=Aside0.mk (hbox);have n2_:=Aside0.mk ((by rw [hg];exact (below_size qz1):w.heap.size≤gb115));have n3_:=Aside0.mk ((by rw [hg];exact (below_size qz1):w.heap.size≤gb115));clear HB;have HB:=n0_;have BK115:=n1_;have GW115:=n2_;have GE115:=n3_;clear n0_ n1_ n2_ n3_ hb hbox hg;have hcz20_0:w19.cell? ⟨gb115,0,none⟩=some (.int .i64 a0_0):=(blk_cell BK115.out 0).trans rfl;have hcz20_1:w19.cell? ⟨gb115,1,none⟩=some (.slice A0_1 l0_1.length c0_1):=(blk_cell BK115.out 1).trans rfl;have hcz20_2:w19.cell? ⟨gb115,2,none⟩=some (.slice A0_2 l0_2.length c0_2):=(blk_cell BK115.out 2).trans rfl;have hcz20_3:w19.cell? ⟨gb115,3,none⟩=some (.slice A0_3 l0_3.length c0_3):=(blk_cell BK115.out 3).trans rfl;have hfz20_0:=blk_frozen BK115.out 0;have hfz20_1:=blk_frozen BK115.out 1;have hfz20_2:=blk_frozen BK115.out 2;have hfz20_3:=blk_frozen BK115.out 3))
   go_ret
   exact ⟨qz4,qz11⟩
  ·rw [if_neg c18] at H
   have c18b0:(a0_0 == 3)=false:=beq_eq_false_iff_ne.mpr c18
   have c18b1:(a0_0 != 3)=true:=bne_iff_ne.mpr c18
   have HC21:=Aside0.mk H
   clear H
   go_enter Tryz.func17,Tryz.ntmps17
   go_upto_if 39 with (first|((with_reducible refine gate_dst (N:=1) rfl ?_);(try (refine gate_guard (by rfl) ?_;dsimp only));refine box_event ?hg (N:=1) ?hd (cs:=#[.int .i64 a0_0,.slice A0_1 l0_1.length c0_1,.slice A0_2 l0_2.length c0_2,.slice A0_3 l0_3.length c0_3]) (t:=24) ?hr ?_;(case hd=>rfl);(case hg=>rfl);(case hr=>first|(go_simp;done)|(go_simp;rfl));intro gb115 hg w22 hbox hb;have n0_:=Aside0.mk (below_step qz1 hb);have n1_:=Aside0.mk (hbox);have n2_:=Aside0.mk ((by rw [hg];exact (below_size qz1):w.heap.size≤gb115));have n3_:=Aside0.mk ((by rw [hg];exact (below_size qz1):w.heap.size≤gb115));clear HB;have HB:=n0_;have BK115:=n1_;have GW115:=n2_;have GE115:=n3_;clear n0_ n1_ n2_ n3_ hb hbox hg;have hcz23_0:w22.cell? ⟨gb115,0,none⟩=some (.int .i64 a0_0):=(blk_cell BK115.out 0).trans rfl;have hcz23_1:w22.cell? ⟨gb115,1,none⟩=some (.slice A0_1 l0_1.length c0_1):=(blk_cell BK115.out 1).trans rfl;have hcz23_2:w22.cell? ⟨gb115,2,none⟩=some (.slice A0_2 l0_2.length c0_2):=(blk_cell BK115.out 2).trans rfl;have hcz23_3:w22.cell? ⟨gb115,3,none⟩=some (.slice A0_3 l0_3.length c0_3):=(blk_cell BK115.out 3).trans rfl;have hfz23_0:=blk_frozen BK115.out 0;have hfz23_1:=blk_frozen BK115.out 1;have hfz23_2:=blk_frozen BK115.out 2;have hfz23_3:=blk_frozen BK115.out 3))
   (try simp only [Act.put,List.setIfInBounds_toArray,List.set_cons_zero,List.set_cons_succ])
   go_cut [39] (fun v39 wc=>∃ (kq:Nat) (x39_20:Bool),v39 = .bool x39_20∧Aside0 (spec_GoalOk.j0 kq a0_0 x39_20 a0_0 l0_1 l0_2 l0_3=some r)∧Aside0 (kq≤k)∧Aside0 (wc.heap[gb115]?=some (.cells #[.int .i64 a0_0,(.slice A0_1 l0_1.length c0_1),(.slice A0_2 l0_2.length c0_2),(.slice A0_3 l0_3.length c0_3)] 24 (0,0)))∧Aside0 (Below w.heap.size w wc))
   case first=>
    have H:=HC21.out
    clear HC21
    by_cases c24:a0_0=2
    ·rw [if_pos c24] at H
     have c24b0:(a0_0 == 2)=true:=beq_iff_eq.mpr c24
     have c24b1:(a0_0 != 2)=false:=bne_eq_false_iff_eq.mpr c24
     clear c24
     (first|rw [c24b0]|rw [c24b1]|(simp only [i64_w,i32_w];rw [c24b0])|skip)
     have H':=Aside0.mk H
     clear H
     go_wp2
     go_meet
     case rel=>exact ⟨_,((a0_0 == 2)),qz9,H',⟨qz107⟩,⟨qz34⟩,⟨qz11⟩⟩
    ·rw [if_neg c24] at H
     have c24b0:(a0_0 == 2)=false:=beq_eq_false_iff_ne.mpr c24
     have c24b1:(a0_0 != 2)=true:=bne_iff_ne.mpr c24
     (first|rw [c24b0]|rw [c24b1]|(simp only [i64_w,i32_w];rw [c24b0])|skip)
     have H':=Aside0.mk H
     clear H
     go_wp2
     go_meet
     case rel=>exact ⟨_,((a0_0 == 4)),qz9,H',⟨qz107⟩,⟨qz34⟩,⟨qz11⟩⟩
   case rest=>
    clear HC21
    try clear c1
    try clear c2
    try clear c2b0
    try clear c2b1
    try clear p2
    try clear c4
    try clear c6
    try clear p6
    try clear c17
    try clear c18
    try clear c18b0
    try clear c18b1
    try clear c24
    try clear c24b0
    try clear c24b1
    try clear hcz10_0
    try clear hcz10_1
    try clear hcz10_2
    try clear hcz10_3
    try clear hcz12_0
    try clear hcz12_1
    try clear hcz12_2
    try clear hcz12_3
    try clear hcz14_0
    try clear hcz14_1
    try clear hcz14_2
    try clear hcz14_3
    try clear hcz16_0
    try clear hcz16_1
    try clear hcz16_2
    try clear hcz16_3
    try clear hcz20_0
    try clear hcz20_1
    try clear hcz20_2
    try clear hcz20_3
    try clear hcz23_0
    try clear hcz23_1
    try clear hcz23_2
    try clear hcz23_3
    try clear hcz8_0
    try clear hcz8_1
    try clear hcz8_2
    try clear hcz8_3
    try clear hfz10_0
    try clear hfz10_1
    try clear hfz10_2
    try clear hfz10_3
    try clear hfz12_0
    try clear hfz12_1
    try clear hfz12_2
    try clear hfz12_3
    try clear hfz14_0
    try clear hfz14_1
    try clear hfz14_2
    try clear hfz14_3
    try clear hfz16_0
    try clear hfz16_1
    try clear hfz16_2
    try clear hfz16_3
    try clear hfz20_0
    try clear hfz20_1
    try clear hfz20_2
    try clear hfz20_3
    try clear hfz23_0
    try clear hfz23_1
    try clear hfz23_2
    try clear hfz23_3
    try clear hfz8_0
    try clear hfz8_1
    try clear hfz8_2
    try clear hfz8_3
    obtain ⟨kq,x39_20,rfl,HA,HJ20,BK115,HB⟩:=hcut
    cases kq with
    | zero=>exact absurd HA.out (by simp [spec_GoalOk.j0])
    | succ kj20=>
     have H:=HA.out
     clear HA
     simp only [spec_GoalOk.j0] at H
     by_cases c25:x39_20=true
     ·subst c25
      have H1:((spec_l3Term.f kj20 l0_1).bind fun t118=>(if t118=true then ((spec_l3Term.f kj20 l0_2).bind fun t119=>(if t119=true then (some ((l0_3.length:Int) == 0)) else (some false))) else (some false)))=some r:=qz57
      clear H
      have H:=H1
      clear H1
      replace H:=Option.bind_eq_some_iff.mp H
      obtain ⟨t118,A260,H⟩:=H
      try dsimp only at H
      have A26:=Aside0.mk A260
      clear A260
      by_cases c27:t118=true
      ·subst c27
       have H1:((spec_l3Term.f kj20 l0_2).bind fun t119=>(if t119=true then (some ((l0_3.length:Int) == 0)) else (some false)))=some r:=qz57
       clear H
       have H:=H1
       clear H1
       replace H:=Option.bind_eq_some_iff.mp H
       obtain ⟨t119,A280,H⟩:=H
       try dsimp only at H
       have A28:=Aside0.mk A280
       clear A280
       by_cases c29:t119=true
       ·subst c29
        have H1:(some ((l0_3.length:Int) == 0))=some r:=qz57
        clear H
        have H:=H1
        clear H1
        obtain rfl:=Option.some.inj H
        have hcz30_0:wc.cell? ⟨gb115,0,none⟩=some (.int .i64 a0_0):=(blk_cell BK115.out 0).trans rfl
        have hcz30_1:wc.cell? ⟨gb115,1,none⟩=some (.slice A0_1 l0_1.length c0_1):=(blk_cell BK115.out 1).trans rfl
        have hcz30_2:wc.cell? ⟨gb115,2,none⟩=some (.slice A0_2 l0_2.length c0_2):=(blk_cell BK115.out 2).trans rfl
        have hcz30_3:wc.cell? ⟨gb115,3,none⟩=some (.slice A0_3 l0_3.length c0_3):=(blk_cell BK115.out 3).trans rfl
        have hfz30_0:=blk_frozen BK115.out 0
        have hfz30_1:=blk_frozen BK115.out 1
        have hfz30_2:=blk_frozen BK115.out 2
        have hfz30_3:=blk_frozen BK115.out 3
        go_wp2_with (first|((with_reducible refine gate_callee (f:=40) rfl ?_);refine goesL_ (some 44) rfl rfl Tryz.func40 (by kernel_rfl) rfl #[.slice A0_1 l0_1.length c0_1] rfl qz2 ?_;(with_reducible refine (spec_l3Term.calls kj20 _ _ l0_1 true _ ?side1 ?side2 A26.out).mono ?_);(case side1=>exact qz6);(case side2=>exact HC0_1.out);rintro e w31 ⟨rfl,hb⟩;refine ⟨_,rfl,?_⟩;have n0_:=Aside0.mk (blk_below (g:=gb115) (o:=.cells #[.int .i64 a0_0,.slice A0_1 l0_1.length c0_1,.slice A0_2 l0_2.length c0_2,.slice A0_3 l0_3.length c0_3] 24 (0,0)) qz34 hb);have n1_:=Aside0.mk (below_step qz11 hb);clear BK115 HB;have BK115:=n0_;have HB:=n1_;clear n0_ n1_;(try clear hb);(try clear hb2);(try clear hk);(try clear hi);have hcz32_0:w31.cell? ⟨gb115,0,none⟩=some (.int .i64 a0_0):=(blk_cell BK115.out 0).trans rfl;have hcz32_1:w31.cell? ⟨gb115,1,none⟩=some (.slice A0_1 l0_1.length c0_1):=(blk_cell BK115.out 1).trans rfl;have hcz32_2:w31.cell? ⟨gb115,2,none⟩=some (.slice A0_2 l0_2.length c0_2):=(blk_cell BK115.out 2).trans rfl;have hcz32_3:w31.cell? ⟨gb115,3,none⟩=some (.slice A0_3 l0_3.length c0_3):=(blk_cell BK115.out 3).trans rfl;have hfz32_0:=blk_frozen BK115.out 0;have hfz32_1:=blk_frozen BK115.out 1;have hfz32_2:=blk_frozen BK115.out 2;have hfz32_3:=blk_frozen BK115.out 3)|(go_at_call 40;(with_reducible refine (spec_l3Term.calls kj20 _ _ l0_2 true _ ?side1 ?side2 A28.out).mono ?_);(case side1=>exact qz10);(case side2=>exact HC0_2.out);rintro e w33 ⟨rfl,hb⟩;have n0_:=Aside0.mk (blk_below (g:=gb115) (o:=.cells #[.int .i64 a0_0,.slice A0_1 l0_1.length c0_1,.slice A0_2 l0_2.length c0_2,.slice A0_3 l0_3.length c0_3] 24 (0,0)) qz34 hb);have n1_:=Aside0.mk (below_step qz11 hb);clear BK115 HB;have BK115:=n0_;have HB:=n1_;clear n0_ n1_;(try clear hb);(try clear hb2);(try clear hk);(try clear hi);have hcz34_0:w33.cell? ⟨gb115,0,none⟩=some (.int .i64 a0_0):=(blk_cell BK115.out 0).trans rfl;have hcz34_1:w33.cell? ⟨gb115,1,none⟩=some (.slice A0_1 l0_1.length c0_1):=(blk_cell BK115.out 1).trans rfl;have hcz34_2:w33.cell? ⟨gb115,2,none⟩=some (.slice A0_2 l0_2.length c0_2):=(blk_cell BK115.out 2).trans rfl;have hcz34_3:w33.cell? ⟨gb115,3,none⟩=some (.slice A0_3 l0_3.length c0_3):=(blk_cell BK115.out 3).trans rfl;have hfz34_0:=blk_frozen BK115.out 0;have hfz34_1:=blk_frozen BK115.out 1;have hfz34_2:=blk_frozen BK115.out 2;have hfz34_3:=blk_frozen BK115.out 3))
        go_ret
        exact ⟨qz4,qz11⟩
       ·replace c29:=Bool.eq_false_iff.mpr c29
        subst c29
        have H1:(some false)=some r:=qz23
        clear H
        have H:=H1
        clear H1
        obtain rfl:=Option.some.inj H
        have hcz35_0:wc.cell? ⟨gb115,0,none⟩=some (.int .i64 a0_0):=(blk_cell BK115.out 0).trans rfl
        have hcz35_1:wc.cell? ⟨gb115,1,none⟩=some (.slice A0_1 l0_1.length c0_1):=(blk_cell BK115.out 1).trans rfl
        have hcz35_2:wc.cell? ⟨gb115,2,none⟩=some (.slice A0_2 l0_2.length c0_2):=(blk_cell BK115.out 2).trans rfl
        have hcz35_3:wc.cell? ⟨gb115,3,none⟩=some (.slice A0_3 l0_3.length c0_3):=(blk_cell BK115.out 3).trans rfl
        have hfz35_0:=blk_frozen BK115.out 0
        have hfz35_1:=blk_frozen BK115.out 1
        have hfz35_2:=blk_frozen BK115.out 2
        have hfz35_3:=blk_frozen BK115.out 3
        go_wp2_with (first|((with_reducible refine gate_callee (f:=40) rfl ?_);refine goesL_ (some 44) rfl rfl Tryz.func40 (by kernel_rfl) rfl #[.slice A0_1 l0_1.length c0_1] rfl qz2 ?_;(with_reducible refine (spec_l3Term.calls kj20 _ _ l0_1 true _ ?side1 ?side2 A26.out).mono ?_);(case side1=>exact qz6);(case side2=>exact HC0_1.out);rintro e w36 ⟨rfl,hb⟩;refine ⟨_,rfl,?_⟩;have n0_:=Aside0.mk (blk_below (g:=gb115) (o:=.cells #[.int .i64 a0_0,.slice A0_1 l0_1.length c0_1,.slice A0_2 l0_2.length c0_2,.slice A0_3 l0_3.length c0_3] 24 (0,0)) qz34 hb);have n1_:=Aside0.mk (below_step qz11 hb);clear BK115 HB;have BK115:=n0_;have HB:=n1_;clear n0_ n1_;(try clear hb);(try clear hb2);(try clear hk);(try clear hi);have hcz37_0:w36.cell? ⟨gb115,0,none⟩=some (.int .i64 a0_0):=(blk_cell BK115.out 0).trans rfl;have hcz37_1:w36.cell? ⟨gb115,1,none⟩=some (.slice A0_1 l0_1.length c0_1):=(blk_cell BK115.out 1).trans rfl;have hcz37_2:w36.cell? ⟨gb115,2,none⟩=some (.slice A0_2 l0_2.length c0_2):=(blk_cell BK115.out 2).trans rfl;have hcz37_3:w36.cell? ⟨gb115,3,none⟩=some (.slice A0_3 l0_3.length c0_3):=(blk_cell BK115.out 3).trans rfl;have hfz37_0:=blk_frozen BK115.out 0;have hfz37_1:=blk_frozen BK115.out 1;have hfz37_2:=blk_frozen BK115.out 2;have hfz37_3:=blk_frozen BK115.out 3)|(go_at_call 40;(with_reducible refine (spec_l3Term.calls kj20 _ _ l0_2 false _ ?side1 ?side2 A28.out).mono ?_);(case side1=>exact qz10);(case side2=>exact HC0_2.out);rintro e w38 ⟨rfl,hb⟩;have n0_:=Aside0.mk (blk_below (g:=gb115) (o:=.cells #[.int .i64 a0_0,.slice A0_1 l0_1.length c0_1,.slice A0_2 l0_2.length c0_2,.slice A0_3 l0_3.length c0_3] 24 (0,0)) qz34 hb);have n1_:=Aside0.mk (below_step qz11 hb);clear BK115 HB;have BK115:=n0_;have HB:=n1_;clear n0_ n1_;(try clear hb);(try clear hb2);(try clear hk);(try clear hi)))
        go_ret
        exact ⟨qz4,qz11⟩
      ·replace c27:=Bool.eq_false_iff.mpr c27
       subst c27
       have H1:(some false)=some r:=qz23
       clear H
       have H:=H1
       clear H1
       obtain rfl:=Option.some.inj H
       have hcz39_0:wc.cell? ⟨gb115,0,none⟩=some (.int .i64 a0_0):=(blk_cell BK115.out 0).trans rfl
       have hcz39_1:wc.cell? ⟨gb115,1,none⟩=some (.slice A0_1 l0_1.length c0_1):=(blk_cell BK115.out 1).trans rfl
       have hcz39_2:wc.cell? ⟨gb115,2,none⟩=some (.slice A0_2 l0_2.length c0_2):=(blk_cell BK115.out 2).trans rfl
       have hcz39_3:wc.cell? ⟨gb115,3,none⟩=some (.slice A0_3 l0_3.length c0_3):=(blk_cell BK115.out 3).trans rfl
       have hfz39_0:=blk_frozen BK115.out 0
       have hfz39_1:=blk_frozen BK115.out 1
       have hfz39_2:=blk_frozen BK115.out 2
       have hfz39_3:=blk_frozen BK115.out 3
       go_wp2_with (first|((with_reducible refine gate_callee (f:=40) rfl ?_);refine goesL_ (some 44) rfl rfl Tryz.func40 (by kernel_rfl) rfl #[.slice A0_1 l0_1.length c0_1] rfl qz2 ?_;(with_reducible refine (spec_l3Term.calls kj20 _ _ l0_1 false _ ?side1 ?side2 A26.out).mono ?_);(case side1=>exact qz6);(case side2=>exact HC0_1.out);rintro e w40 ⟨rfl,hb⟩;refine ⟨_,rfl,?_⟩;have n0_:=Aside0.mk (blk_below (g:=gb115) (o:=.cells #[.int .i64 a0_0,.slice A0_1 l0_1.length c0_1,.slice A0_2 l0_2.length c0_2,.slice A0_3 l0_3.length c0_3] 24 (0,0)) qz34 hb);have n1_:=Aside0.mk (below_step qz11 hb);clear BK115 HB;have BK115:=n0_;have HB:=n1_;clear n0_ n1_;(try clear hb);(try clear hb2);(try clear hk);(try clear hi)))
       go_ret
       exact ⟨qz4,qz11⟩
     ·replace c25:=Bool.eq_false_iff.mpr c25
      subst c25
      have H1:(if a0_0=5 then ((spec_l3Term.f kj20 l0_1).bind fun t120=>(if t120=true then ((spec_l3Term.f kj20 l0_2).bind fun t121=>(if t121=true then ((spec_l3Term.f kj20 l0_3).bind fun t122=>(some t122)) else (some false))) else (some false))) else (some false))=some r:=qz23
      clear H
      have H:=H1
      clear H1
      by_cases c41:a0_0=5
      ·rw [if_pos c41] at H
       have c41b0:(a0_0 == 5)=true:=beq_iff_eq.mpr c41
       have c41b1:(a0_0 != 5)=false:=bne_eq_false_iff_eq.mpr c41
       clear c41
       replace H:=Option.bind_eq_some_iff.mp H
       obtain ⟨t120,A420,H⟩:=H
       try dsimp only at H
       have A42:=Aside0.mk A420
       clear A420
       by_cases c43:t120=true
       ·subst c43
        have H1:((spec_l3Term.f kj20 l0_2).bind fun t121=>(if t121=true then ((spec_l3Term.f kj20 l0_3).bind fun t122=>(some t122)) else (some false)))=some r:=qz57
        clear H
        have H:=H1
        clear H1
        replace H:=Option.bind_eq_some_iff.mp H
        obtain ⟨t121,A440,H⟩:=H
        try dsimp only at H
        have A44:=Aside0.mk A440
        clear A440
        by_cases c45:t121=true
        ·subst c45
         have H1:((spec_l3Term.f kj20 l0_3).bind fun t122=>(some t122))=some r:=qz57
         clear H
         have H:=H1
         clear H1
         replace H:=Option.bind_eq_some_iff.mp H
         obtain ⟨t122,A460,H⟩:=H
         try dsimp only at H
         have A46:=Aside0.mk A460
         clear A460
         obtain rfl:=Option.some.inj H
         have hcz47_0:wc.cell? ⟨gb115,0,none⟩=some (.int .i64 a0_0):=(blk_cell BK115.out 0).trans rfl
         have hcz47_1:wc.cell? ⟨gb115,1,none⟩=some (.slice A0_1 l0_1.length c0_1):=(blk_cell BK115.out 1).trans rfl
         have hcz47_2:wc.cell? ⟨gb115,2,none⟩=some (.slice A0_2 l0_2.length c0_2):=(blk_cell BK115.out 2).trans rfl
         have hcz47_3:wc.cell? ⟨gb115,3,none⟩=some (.slice A0_3 l0_3.length c0_3):=(blk_cell BK115.out 3).trans rfl
         have hfz47_0:=blk_frozen BK115.out 0
         have hfz47_1:=blk_frozen BK115.out 1
         have hfz47_2:=blk_frozen BK115.out 2
         have hfz47_3:=blk_frozen BK115.out 3
         go_wp2_with (first|((with_reducible refine gate_callee (f:=40) rfl ?_);refine goesL_ (some 60) rfl rfl Tryz.func40 (by kernel_rfl) rfl #[.slice A0_1 l0_1.length c0_1] rfl qz2 ?_;(with_reducible refine (spec_l3Term.calls kj20 _ _ l0_1 true _ ?side1 ?side2 A42.out).mono ?_);(case side1=>exact qz6);(case side2=>exact HC0_1.out);rintro e w48 ⟨rfl,hb⟩;refine ⟨_,rfl,?_⟩;have n0_:=Aside0.mk (blk_below (g:=gb115) (o:=.cells #[.int .i64 a0_0,.slice A0_1 l0_1.length c0_1,.slice A0_2 l0_2.length c0_2,.slice A0_3 l0_3.length c0_3] 24 (0,0)) qz34 hb);have n1_:=Aside0.mk (below_step qz11 hb);clear BK115 HB;have BK115:=n0_;have HB:=n1_;clear n0_ n1_;(try clear hb);(try clear hb2);(try clear hk);(try clear hi);have hcz49_0:w48.cell? ⟨gb115,0,none⟩=some (.int .i64 a0_0):=(blk_cell BK115.out 0).trans rfl;have hcz49_1:w48.cell? ⟨gb115,1,none⟩=some (.slice A0_1 l0_1.length c0_1):=(blk_cell BK115.out 1).trans rfl;have hcz49_2:w48.cell? ⟨gb115,2,none⟩=some (.slice A0_2 l0_2.length c0_2):=(blk_cell BK115.out 2).trans rfl;have hcz49_3:w48.cell? ⟨gb115,3,none⟩=some (.slice A0_3 l0_3.length c0_3):=(blk_cell BK115.out 3).trans rfl;have hfz49_0:=blk_frozen BK115.out 0;have hfz49_1:=blk_frozen BK115.out 1;have hfz49_2:=blk_frozen BK115.out 2;have hfz49_3:=blk_frozen BK115.out 3)|(go_at_call 40;(with_reducible refine (spec_l3Term.calls kj20 _ _ l0_2 true _ ?side1 ?side2 A44.out).mono ?_);(case side1=>exact qz10);(case side2=>exact HC0_2.out);rintro e w50 ⟨rfl,hb⟩;have n0_:=Aside0.mk (blk_below (g:=gb115) (o:=.cells #[.int .i64 a0_0,.slice A0_1 l0_1.length c0_1,.slice A0_2 l0_2.length c0_2,.slice A0_3 l0_3.length c0_3] 24 (0,0)) qz34 hb);have n1_:=Aside0.mk (below_step qz11 hb);clear BK115 HB;have BK115:=n0_;have HB:=n1_;clear n0_ n1_;(try clear hb);(try clear hb2);(try clear hk);(try clear hi);have hcz51_0:w50.cell? ⟨gb115,0,none⟩=some (.int .i64 a0_0):=(blk_cell BK115.out 0).trans rfl;have hcz51_1:w50.cell? ⟨gb115,1,none⟩=some (.slice A0_1 l0_1.length c0_1):=(blk_cell BK115.out 1).trans rfl;have hcz51_2:w50.cell? ⟨gb115,2,none⟩=some (.slice A0_2 l0_2.length c0_2):=(blk_cell BK115.out 2).trans rfl;have hcz51_3:w50.cell? ⟨gb115,3,none⟩=some (.slice A0_3 l0_3.length c0_3):=(blk_cell BK115.out 3).trans rfl;have hfz51_0:=blk_frozen BK115.out 0;have hfz51_1:=blk_frozen BK115.out 1;have hfz51_2:=blk_frozen BK115.out 2;have hfz51_3:=blk_frozen BK115.out 3)|(go_at_call 40;(with_reducible refine (spec_l3Term.calls kj20 _ _ l0_3 t122 _ ?side1 ?side2 A46.out).mono ?_);(case side1=>exact qz22);(case side2=>exact HC0_3.out);rintro e w52 ⟨rfl,hb⟩;have n0_:=Aside0.mk (blk_below (g:=gb115) (o:=.cells #[.int .i64 a0_0,.slice A0_1 l0_1.length c0_1,.slice A0_2 l0_2.length c0_2,.slice A0_3 l0_3.length c0_3] 24 (0,0)) qz34 hb);have n1_:=Aside0.mk (below_step qz11 hb);clear BK115 HB;have BK115:=n0_;have HB:=n1_;clear n0_ n1_;(try clear hb);(try clear hb2);(try clear hk);(try clear hi)))
         go_ret
         exact ⟨qz4,qz11⟩
        ·replace c45:=Bool.eq_false_iff.mpr c45
         subst c45
         have H1:(some false)=some r:=qz23
         clear H
         have H:=H1
         clear H1
         obtain rfl:=Option.some.inj H
         have hcz53_0:wc.cell? ⟨gb115,0,none⟩=some (.int .i64 a0_0):=(blk_cell BK115.out 0).trans rfl
         have hcz53_1:wc.cell? ⟨gb115,1,none⟩=some (.slice A0_1 l0_1.length c0_1):=(blk_cell BK115.out 1).trans rfl
         have hcz53_2:wc.cell? ⟨gb115,2,none⟩=some (.slice A0_2 l0_2.length c0_2):=(blk_cell BK115.out 2).trans rfl
         have hcz53_3:wc.cell? ⟨gb115,3,none⟩=some (.slice A0_3 l0_3.length c0_3):=(blk_cell BK115.out 3).trans rfl
         have hfz53_0:=blk_frozen BK115.out 0
         have hfz53_1:=blk_frozen BK115.out 1
         have hfz53_2:=blk_frozen BK115.out 2
         have hfz53_3:=blk_frozen BK115.out 3
         go_wp2_with (first|((with_reducible refine gate_callee (f:=40) rfl ?_);refine goesL_ (some 60) rfl rfl Tryz.func40 (by kernel_rfl) rfl #[.slice A0_1 l0_1.length c0_1] rfl qz2 ?_;(with_reducible refine (spec_l3Term.calls kj20 _ _ l0_1 true _ ?side1 ?side2 A42.out).mono ?_);(case side1=>exact qz6);(case side2=>exact HC0_1.out);rintro e w54 ⟨rfl,hb⟩;refine ⟨_,rfl,?_⟩;have n0_:=Aside0.mk (blk_below (g:=gb115) (o:=.cells #[.int .i64 a0_0,.slice A0_1 l0_1.length c0_1,.slice A0_2 l0_2.length c0_2,.slice A0_3 l0_3.length c0_3] 24 (0,0)) qz34 hb);have n1_:=Aside0.mk (below_step qz11 hb);clear BK115 HB;have BK115:=n0_;have HB:=n1_;clear n0_ n1_;(try clear hb);(try clear hb2);(try clear hk);(try clear hi);have hcz55_0:w54.cell? ⟨gb115,0,none⟩=some (.int .i64 a0_0):=(blk_cell BK115.out 0).trans rfl;have hcz55_1:w54.cell? ⟨gb115,1,none⟩=some (.slice A0_1 l0_1.length c0_1):=(blk_cell BK115.out 1).trans rfl;have hcz55_2:w54.cell? ⟨gb115,2,none⟩=some (.slice A0_2 l0_2.length c0_2):=(blk_cell BK115.out 2).trans rfl;have hcz55_3:w54.cell? ⟨gb115,3,none⟩=some (.slice A0_3 l0_3.length c0_3):=(blk_cell BK115.out 3).trans rfl;have hfz55_0:=blk_frozen BK115.out 0;have hfz55_1:=blk_frozen BK115.out 1;have hfz55_2:=blk_frozen BK115.out 2;have hfz55_3:=blk_frozen BK115.out 3)|(go_at_call 40;(with_reducible refine (spec_l3Term.calls kj20 _ _ l0_2 false _ ?side1 ?side2 A44.out).mono ?_);(case side1=>exact qz10);(case side2=>exact HC0_2.out);rintro e w56 ⟨rfl,hb⟩;have n0_:=Aside0.mk (blk_below (g:=gb115) (o:=.cells #[.int .i64 a0_0,.slice A0_1 l0_1.length c0_1,.slice A0_2 l0_2.length c0_2,.slice A0_3 l0_3.length c0_3] 24 (0,0)) qz34 hb);have n1_:=Aside0.mk (below_step qz11 hb);clear BK115 HB;have BK115:=n0_;have HB:=n1_;clear n0_ n1_;(try clear hb);(try clear hb2);(try clear hk);(try clear hi)))
         go_ret
         exact ⟨qz4,qz11⟩
       ·replace c43:=Bool.eq_false_iff.mpr c43
        subst c43
        have H1:(some false)=some r:=qz23
        clear H
        have H:=H1
        clear H1
        obtain rfl:=Option.some.inj H
        have hcz57_0:wc.cell? ⟨gb115,0,none⟩=some (.int .i64 a0_0):=(blk_cell BK115.out 0).trans rfl
        have hcz57_1:wc.cell? ⟨gb115,1,none⟩=some (.slice A0_1 l0_1.length c0_1):=(blk_cell BK115.out 1).trans rfl
        have hcz57_2:wc.cell? ⟨gb115,2,none⟩=some (.slice A0_2 l0_2.length c0_2):=(blk_cell BK115.out 2).trans rfl
        have hcz57_3:wc.cell? ⟨gb115,3,none⟩=some (.slice A0_3 l0_3.length c0_3):=(blk_cell BK115.out 3).trans rfl
        have hfz57_0:=blk_frozen BK115.out 0
        have hfz57_1:=blk_frozen BK115.out 1
        have hfz57_2:=blk_frozen BK115.out 2
        have hfz57_3:=blk_frozen BK115.out 3
        go_wp2_with (first|((with_reducible refine gate_callee (f:=40) rfl ?_);refine goesL_ (some 60) rfl rfl Tryz.func40 (by kernel_rfl) rfl #[.slice A0_1 l0_1.length c0_1] rfl qz2 ?_;(with_reducible refine (spec_l3Term.calls kj20 _ _ l0_1 false _ ?side1 ?side2 A42.out).mono ?_);(case side1=>exact qz6);(case side2=>exact HC0_1.out);rintro e w58 ⟨rfl,hb⟩;refine ⟨_,rfl,?_⟩;have n0_:=Aside0.mk (blk_below (g:=gb115) (o:=.cells #[.int .i64 a0_0,.slice A0_1 l0_1.length c0_1,.slice A0_2 l0_2.length c0_2,.slice A0_3 l0_3.length c0_3] 24 (0,0)) qz34 hb);have n1_:=Aside0.mk (below_step qz11 hb);clear BK115 HB;have BK115:=n0_;have HB:=n1_;clear n0_ n1_;(try clear hb);(try clear hb2);(try clear hk);(try clear hi)))
        go_ret
        exact ⟨qz4,qz11⟩
      ·rw [if_neg c41] at H
       have c41b0:(a0_0 == 5)=false:=beq_eq_false_iff_ne.mpr c41
       have c41b1:(a0_0 != 5)=true:=bne_iff_ne.mpr c41
       obtain rfl:=Option.some.inj H
       go_wp2
       go_ret
       exact ⟨qz4,qz11⟩

/-! ### spec_l3Words: function 24 -/
def spec_l3Words.l0:Nat→ByteArray→List ByteArray→ByteArray→Int→Option (List ByteArray)
 | 0,_,_,_,_=>none
 | k+1,x0,x3,x4,x5=>if x5<(x0.size:Int) then (if 0≤x5 then (if (bt x0 x5)=32 then (if x3.length<8796093022208 then (spec_l3Words.l0 k x0 (x3++[x4]) (⟨#[]⟩:ByteArray) (wrap64 (x5+1))) else (none)) else (if x5≤(wrap64 (x5+1)) then (if (wrap64 (x5+1))≤(x0.size:Int) then (if x4.size+(x0.extract (x5:Int).toNat ((wrap64 (x5+1)):Int).toNat).size≤9223372036854775807 then (spec_l3Words.l0 k x0 x3 (x4++(x0.extract (x5:Int).toNat ((wrap64 (x5+1)):Int).toNat)) (wrap64 (x5+1))) else (none)) else (none)) else (none))) else (none)) else (if x3.length<8796093022208 then (some (x3++[x4])) else (none))
def spec_l3Words.f (k:Nat) (a0:ByteArray):Option (List ByteArray):=spec_l3Words.l0 k a0 (([]:List ByteArray)) (⟨#[]⟩:ByteArray) 0
set_option maxHeartbeats 8000000 in
set_option maxRecDepth 100000 in
theorem spec_l3Words.calls (k:Nat) (a0:ByteArray) (r:List ByteArray) (w:World) (h:spec_l3Words.f k a0=some r) :
  Calls Tryz.prog 24 #[.string a0] w fun e w'=>∃ v0_:Value,e = .returned (v0_)∧Kd.R Kd.string 9 w' w.heap.size (fun _=>True) v0_ r∧Below w.heap.size w w':=by
 have HB:=Aside0.mk (Below.refl w.heap.size w)
 have H:(spec_l3Words.l0 k a0 (([]:List ByteArray)) (⟨#[]⟩:ByteArray) 0)=some r:=h
 clear h
 obtain ⟨y123,hy123⟩:∃ y_:List ByteArray,y_=(([]:List ByteArray)):=⟨_,rfl⟩
 replace H:(spec_l3Words.l0 k a0 y123 (⟨#[]⟩:ByteArray) 0)=some r:=by first|(rw [hy123];exact H)|exact H
 have Ny123:=Aside0.mk hy123
 clear hy123
 have H':=Aside0.mk H
 clear H
 go_enter Tryz.func24,Tryz.ntmps24
 go_wp2_with (first|((with_reducible refine gate_dst (N:=6) rfl ?_);refine Kd.R_lit Kd.string _ 9 ?hg (N:=6) ?hd (xs:=([]:List ByteArray)) (inner:=[]) (ok:=fun _=>True) (okp:=fun _=>True) ?hr ?hp (fun _ hk=>hk) trivial (Below.refl _ _) (Nat.le_refl _) (by simp) ?_;(case hd=>rfl);(case hg=>rfl);(case hr=>first|(go_simp;done)|(go_simp;rfl));(case hp=>exact (Reps.none _ _));intro v124 w2 ho3 hb hg_ hnew_;clear hg_ hnew_;(first|rw [← Ny123.out] at ho3|(simp only [Int.reduceToNat] at ho3;rw [← Ny123.out] at ho3));have n0_:=Aside0.mk (Kd.R_lower ho3 (below_size qz1));have n1_:=Aside0.mk (below_step qz1 hb);clear HB;have HO125:=n0_;have HB:=n1_;clear n0_ n1_ hb ho3))
 go_loopg [3,4,5] k (fun kq v3 v4 v5 w'=>∃ (x3_1:List ByteArray) (x4_1:ByteArray) (x5_1:Int),v4 = .string x4_1∧v5 = .int .i64 x5_1∧Aside0 (spec_l3Words.l0 kq a0 x3_1 x4_1 x5_1=some r)∧Aside0 (kq≤k)∧Aside0 (Kd.R Kd.string 9 w' w.heap.size (fun _=>True) v3 x3_1)∧Aside0 (Below w.heap.size w w'))
 case atStart=>exact ⟨(y123),((⟨#[]⟩:ByteArray)),(0),qz9,qz9,H',⟨Nat.le_refl _⟩,⟨by (with_reducible repeat (first|apply Kd.R_alloc|apply Kd.R_drewN|apply Kd.R_drew));exact HO125.out⟩,⟨qz3⟩⟩
 case round=>
  clear H'
  try clear c2
  try clear p2
  obtain ⟨x3_1,x4_1,x5_1,rfl,rfl,HA,HK1,HO_3,HB⟩:=hrel
  cases gk with
  | zero=>exact absurd HA.out (by simp [spec_l3Words.l0])
  | succ k1=>
   have H:=HA.out
   clear HA
   simp only [spec_l3Words.l0] at H
   by_cases c4:x5_1<(a0.size:Int)
   ·rw [if_pos c4] at H
    have c4b0:decide (x5_1<(a0.size:Int))=true:=decide_eq_true c4
    clear c4
    by_cases c5:0≤x5_1
    ·rw [if_pos c5] at H
     have c5b0:decide (0≤x5_1)=true:=decide_eq_true c5
     clear c5
     by_cases c7:(bt a0 x5_1)=32
     ·rw [if_pos c7] at H
      have c7b0:((bt a0 x5_1) == 32)=true:=beq_iff_eq.mpr c7
      have c7b1:((bt a0 x5_1) != 32)=false:=bne_eq_false_iff_eq.mpr c7
      clear c7
      by_cases c8:x3_1.length<8796093022208
      ·rw [if_pos c8] at H
       have LMc8:=Aside0.mk c8
       clear c8
       obtain ⟨y129,hy129⟩:∃ y_:List ByteArray,y_=(x3_1++[x4_1]):=⟨_,rfl⟩
       replace H:(spec_l3Words.l0 k1 a0 y129 (⟨#[]⟩:ByteArray) (wrap64 (x5_1+1)))=some r:=by first|(rw [hy129];exact H)|exact H
       have Ny129:=Aside0.mk hy129
       clear hy129
       have H':=Aside0.mk H
       clear H
       have p6:0≤(x5_1:Int):=of_decide_eq_true qz5
       have q6:x5_1<(a0.size:Int):=of_decide_eq_true qz5
       have hx6:=bt_at a0 x5_1
       replace p6:=eq_true p6
       replace q6:=eq_true q6
       go_wp2_with (first|((with_reducible refine gate_builtin (b:=.append) (xs:=#[.tmp 17,.tmp 19]) rfl ?_);at_builtin;refine Kd.R_append Kd.string (w0:=w) w.heap.size rfl (.tmp 17) (.tmp 19) 44 9 (.string ⟨#[]⟩) 16 rfl Tryz.underlying44 info9 rfl (by decide) (by omega) u3 x3_1 x4_1 [.string x4_1] (fun _=>True) (fun _=>False) rfl rfl ?aP (fun _ hk=>hk.elim) ?aF ?aO ?aB ?aS ?aL ?_;(case aP=>exact rfl);(case aB=>exact qz1);(case aF=>exact (fun _ _=>trivial));(case aO=>exact qz166);(case aS=>exact (below_size qz1));(case aL=>have:=LMc8.out;omega);intro v130 w9 ho hb hg hat;rw [← Ny129.out] at ho;have n0_:=Aside0.mk (hb);have n1_:=Aside0.mk (ho);clear HB HO_3;have HB:=n0_;have HO131:=n1_;clear n0_ n1_ ho hb hg hat))
       go_roundg k1
       case measure=>have:=HK1.out;omega
       case rel=>exact ⟨(y129),((⟨#[]⟩:ByteArray)),(wrap64 (x5_1+1)),qz9,qz9,H',⟨by have:=HK1.out;omega⟩,⟨by (with_reducible repeat (first|apply Kd.R_alloc|apply Kd.R_drewN|apply Kd.R_drew));exact HO131.out⟩,⟨qz3⟩⟩
      ·rw [if_neg c8] at H
       exact absurd H (by simp)
     ·rw [if_neg c7] at H
      have c7b0:((bt a0 x5_1) == 32)=false:=beq_eq_false_iff_ne.mpr c7
      have c7b1:((bt a0 x5_1) != 32)=true:=bne_iff_ne.mpr c7
      have c10b0:=eq_true (of_decide_eq_true qz5:0≤x5_1)
      by_cases c11:x5_1≤(wrap64 (x5_1+1))
      ·rw [if_pos c11] at H
       have c11b0:=eq_true c11
       have c11b1:decide (x5_1≤(wrap64 (x5_1+1)))=true:=decide_eq_true c11
       by_cases c12:(wrap64 (x5_1+1))≤(a0.size:Int)
       ·rw [if_pos c12] at H
        have c12b0:=eq_true c12
        have c12b1:decide ((wrap64 (x5_1+1))≤(a0.size:Int))=true:=decide_eq_true c12
        by_cases c13:x4_1.size+(a0.extract (x5_1:Int).toNat ((wrap64 (x5_1+1)):Int).toNat).size≤9223372036854775807
        ·rw [if_pos c13] at H
         have c13b0:=eq_true c13
         have c13b1:decide (x4_1.size+(a0.extract (x5_1:Int).toNat ((wrap64 (x5_1+1)):Int).toNat).size≤9223372036854775807)=true:=decide_eq_true c13
         try have c13b2:(9223372036854775807<x4_1.size+(a0.extract (x5_1:Int).toNat ((wrap64 (x5_1+1)):Int).toNat).size)=False:=eq_false (Nat.not_lt.2 c13)
         have H':=Aside0.mk H
         clear H
         have p6:0≤(x5_1:Int):=of_decide_eq_true qz5
         have q6:x5_1<(a0.size:Int):=of_decide_eq_true qz5
         have hx6:=bt_at a0 x5_1
         replace p6:=eq_true p6
         replace q6:=eq_true q6
         go_wp2
         go_roundg k1
         case measure=>have:=HK1.out;omega
         case rel=>exact ⟨(x3_1),(x4_1++(a0.extract (x5_1:Int).toNat ((wrap64 (x5_1+1)):Int).toNat)),(wrap64 (x5_1+1)),qz9,qz9,H',⟨by have:=HK1.out;omega⟩,⟨qz166⟩,⟨qz3⟩⟩
        ·rw [if_neg c13] at H
         exact absurd H (by simp)
       ·rw [if_neg c12] at H
        exact absurd H (by simp)
      ·rw [if_neg c11] at H
       exact absurd H (by simp)
    ·rw [if_neg c5] at H
     exact absurd H (by simp)
   ·rw [if_neg c4] at H
    have c4b0:decide (x5_1<(a0.size:Int))=false:=decide_eq_false c4
    clear c4
    by_cases c14:x3_1.length<8796093022208
    ·rw [if_pos c14] at H
     have LMc14:=Aside0.mk c14
     clear c14
     obtain ⟨y126,hy126⟩:∃ y_:List ByteArray,y_=(x3_1++[x4_1]):=⟨_,rfl⟩
     replace H:(some y126)=some r:=by first|(rw [hy126];exact H)|exact H
     have Ny126:=Aside0.mk hy126
     clear hy126
     obtain rfl:=Option.some.inj H
     go_wp2_with (first|((with_reducible refine gate_builtin (b:=.append) (xs:=#[.tmp 28,.tmp 30]) rfl ?_);at_builtin;refine Kd.R_append Kd.string (w0:=w) w.heap.size rfl (.tmp 28) (.tmp 30) 44 9 (.string ⟨#[]⟩) 16 rfl Tryz.underlying44 info9 rfl (by decide) (by omega) u3 x3_1 x4_1 [.string x4_1] (fun _=>True) (fun _=>False) rfl rfl ?aP (fun _ hk=>hk.elim) ?aF ?aO ?aB ?aS ?aL ?_;(case aP=>exact rfl);(case aB=>exact qz1);(case aF=>exact (fun _ _=>trivial));(case aO=>exact qz166);(case aS=>exact (below_size qz1));(case aL=>have:=LMc14.out;omega);intro v127 w15 ho hb hg hat;rw [← Ny126.out] at ho;have n0_:=Aside0.mk (hb);have n1_:=Aside0.mk (ho);clear HB HO_3;have HB:=n0_;have HO128:=n1_;clear n0_ n1_ ho hb hg hat))
     go_ret
     exact ⟨_,qz4,by (with_reducible repeat (first|apply Kd.R_alloc|apply Kd.R_drewN|apply Kd.R_drew));exact HO128.out,qz3⟩
    ·rw [if_neg c14] at H
     exact absurd H (by simp)

/-! ### spec_l1Plain: function 91 -/
def spec_l1Plain.l0:Nat→Int→ByteArray→Option (ByteArray)
 | 0,_,_=>none
 | k+1,x0,x3=>if x0 > 9 then ((some (([(wrap64 (48+(Int.tmod x0 10))) % 256]:List Int):List Int)).bind fun y132=>(if (strOfNums y132).size+x3.size≤9223372036854775807 then (spec_l1Plain.l0 k (wrap64 (Int.tdiv x0 10)) ((strOfNums y132)++x3)) else (none))) else ((some (([(wrap64 (48+x0)) % 256]:List Int):List Int)).bind fun y135=>(if (strOfNums y135).size+x3.size≤9223372036854775807 then (some ((strOfNums y135)++x3)) else (none)))
def spec_l1Plain.f (k:Nat) (a0:Int):Option (ByteArray):=spec_l1Plain.l0 k a0 (⟨#[]⟩:ByteArray)
set_option maxHeartbeats 8000000 in
set_option maxRecDepth 100000 in
theorem spec_l1Plain.calls (k:Nat) (a0:Int) (r:ByteArray) (w:World) (h:spec_l1Plain.f k a0=some r) :
  Calls Tryz.prog 91 #[.int .i64 a0] w fun e w'=>e = .returned (.string r)∧Below w.heap.size w w':=by
 have HB:=Aside0.mk (Below.refl w.heap.size w)
 have H:(spec_l1Plain.l0 k a0 (⟨#[]⟩:ByteArray))=some r:=h
 clear h
 have H':=Aside0.mk H
 clear H
 go_enter Tryz.func91,Tryz.ntmps91
 go_wp2
 go_loopg [0,3] k (fun kq v0 v3 w'=>∃ (x0_1:Int) (x3_1:ByteArray),v0 = .int .i64 x0_1∧v3 = .string x3_1∧Aside0 (spec_l1Plain.l0 kq x0_1 x3_1=some r)∧Aside0 (kq≤k)∧Aside0 (Below w.heap.size w w'))
 case atStart=>exact ⟨(a0),((⟨#[]⟩:ByteArray)),qz9,qz9,H',⟨Nat.le_refl _⟩,⟨qz3⟩⟩
 case round=>
  clear H'
  obtain ⟨x0_1,x3_1,rfl,rfl,HA,HK1,HB⟩:=hrel
  cases gk with
  | zero=>exact absurd HA.out (by simp [spec_l1Plain.l0])
  | succ k1=>
   have H:=HA.out
   clear HA
   simp only [spec_l1Plain.l0] at H
   by_cases c2:x0_1 > 9
   ·rw [if_pos c2] at H
    have c2b0:decide (9<x0_1)=true:=decide_eq_true c2
    clear c2
    obtain ⟨y132,hy132⟩:∃ y_:List Int,y_=(([(wrap64 (48+(Int.tmod x0_1 10))) % 256]:List Int)):=⟨_,rfl⟩
    replace H:(if (strOfNums y132).size+x3_1.size≤9223372036854775807 then (spec_l1Plain.l0 k1 (wrap64 (Int.tdiv x0_1 10)) ((strOfNums y132)++x3_1)) else (none))=some r:=by first|(rw [hy132];exact H)|exact H
    have Ny132:=Aside0.mk hy132
    clear hy132
    by_cases c3:(strOfNums y132).size+x3_1.size≤9223372036854775807
    ·rw [if_pos c3] at H
     have c3b0:=eq_true c3
     have c3b1:decide ((strOfNums y132).size+x3_1.size≤9223372036854775807)=true:=decide_eq_true c3
     try have c3b2:(9223372036854775807<(strOfNums y132).size+x3_1.size)=False:=eq_false (Nat.not_lt.2 c3)
     have H':=Aside0.mk H
     clear H
     go_wp2_with (first|((with_reducible refine gate_dst (N:=10) rfl ?_);refine Kd.R_lit (Kd.int .u8) _ 5 ?hg (N:=10) ?hd (xs:=([(wrap64 (48+(Int.tmod x0_1 10))) % 256]:List Int)) (inner:=[.int .u8 ((wrap64 (48+(Int.tmod x0_1 10))) % 256)]) (ok:=fun _=>True) (okp:=fun _=>True) ?hr ?hp (fun _ hk=>hk) trivial (Below.refl _ _) (Nat.le_refl _) (by simp) ?_;(case hd=>rfl);(case hg=>rfl);(case hr=>first|(go_simp;done)|(go_simp;rfl));(case hp=>exact (Reps.one (show Kd.M (Kd.int .u8) _ _ _ ((wrap64 (48+(Int.tmod x0_1 10))) % 256) [.int .u8 ((wrap64 (48+(Int.tmod x0_1 10))) % 256)] from rfl) (Reps.none _ _)));intro v133 w4 ho5 hb hg_ hnew_;clear hg_ hnew_;(first|rw [← Ny132.out] at ho5|(simp only [Int.reduceToNat] at ho5;rw [← Ny132.out] at ho5));have n0_:=Aside0.mk (Kd.R_lower ho5 (below_size qz1));have n1_:=Aside0.mk (below_step qz1 hb);clear HB;have HO134:=n0_;have HB:=n1_;clear n0_ n1_ hb ho5;have hcv6:=own_string (P:=Tryz.prog) Tryz.underlying30 Tryz.underlying5 Tryz.underlying9 (Kd.own_of_R HO134.out)))
     go_roundg k1
     case measure=>have:=HK1.out;omega
     case rel=>exact ⟨(wrap64 (Int.tdiv x0_1 10)),((strOfNums y132)++x3_1),qz9,qz9,H',⟨by have:=HK1.out;omega⟩,⟨qz3⟩⟩
    ·rw [if_neg c3] at H
     exact absurd H (by simp)
   ·rw [if_neg c2] at H
    have c2b0:decide (9<x0_1)=false:=decide_eq_false c2
    clear c2
    obtain ⟨y135,hy135⟩:∃ y_:List Int,y_=(([(wrap64 (48+x0_1)) % 256]:List Int)):=⟨_,rfl⟩
    replace H:(if (strOfNums y135).size+x3_1.size≤9223372036854775807 then (some ((strOfNums y135)++x3_1)) else (none))=some r:=by first|(rw [hy135];exact H)|exact H
    have Ny135:=Aside0.mk hy135
    clear hy135
    by_cases c7:(strOfNums y135).size+x3_1.size≤9223372036854775807
    ·rw [if_pos c7] at H
     have c7b0:=eq_true c7
     have c7b1:decide ((strOfNums y135).size+x3_1.size≤9223372036854775807)=true:=decide_eq_true c7
     try have c7b2:(9223372036854775807<(strOfNums y135).size+x3_1.size)=False:=eq_false (Nat.not_lt.2 c7)
     obtain rfl:=Option.some.inj H
     go_wp2_with (first|((with_reducible refine gate_dst (N:=19) rfl ?_);refine Kd.R_lit (Kd.int .u8) _ 5 ?hg (N:=19) ?hd (xs:=([(wrap64 (48+x0_1)) % 256]:List Int)) (inner:=[.int .u8 ((wrap64 (48+x0_1)) % 256)]) (ok:=fun _=>True) (okp:=fun _=>True) ?hr ?hp (fun _ hk=>hk) trivial (Below.refl _ _) (Nat.le_refl _) (by simp) ?_;(case hd=>rfl);(case hg=>rfl);(case hr=>first|(go_simp;done)|(go_simp;rfl));(case hp=>exact (Reps.one (show Kd.M (Kd.int .u8) _ _ _ ((wrap64 (48+x0_1)) % 256) [.int .u8 ((wrap64 (48+x0_1)) % 256)] from rfl) (Reps.none _ _)));intro v136 w8 ho9 hb hg_ hnew_;clear hg_ hnew_;(first|rw [← Ny135.out] at ho9|(simp only [Int.reduceToNat] at ho9;rw [← Ny135.out] at ho9));have n0_:=Aside0.mk (Kd.R_lower ho9 (below_size qz1));have n1_:=Aside0.mk (below_step qz1 hb);clear HB;have HO137:=n0_;have HB:=n1_;clear n0_ n1_ hb ho9;have hcv10:=own_string (P:=Tryz.prog) Tryz.underlying30 Tryz.underlying5 Tryz.underlying9 (Kd.own_of_R HO137.out)))
     go_ret
     exact ⟨qz4,qz3⟩
    ·rw [if_neg c7] at H
     exact absurd H (by simp)

/-! ### spec_l1Word: function 63 -/
def spec_l1Word.f (k:Nat) (a0_0:Int) (a0_1:Int) (a0_2:ByteArray):Option (ByteArray):=if a0_0=1 then ((spec_l1Plain.f k a0_1).bind fun t139=>(if 1+t139.size≤9223372036854775807 then (some ((⟨#[88]⟩:ByteArray)++t139)) else (none))) else (if a0_0=2 then (if a0_1<0 then ((spec_l1Plain.f k (wrap64 (-a0_1))).bind fun t140=>(if 1+t140.size≤9223372036854775807 then (some ((⟨#[45]⟩:ByteArray)++t140)) else (none))) else ((spec_l1Plain.f k a0_1).bind fun t141=>(some t141))) else (some a0_2))
set_option maxHeartbeats 8000000 in
set_option maxRecDepth 100000 in
theorem spec_l1Word.calls (k:Nat) (a0_0:Int) (a0_1:Int) (a0_2:ByteArray) (r:ByteArray) (w:World) (h:spec_l1Word.f k a0_0 a0_1 a0_2=some r) :
  Calls Tryz.prog 63 #[.agg #[.int .i64 a0_0,.int .i64 a0_1,.string a0_2]] w fun e w'=>e = .returned (.string r)∧Below w.heap.size w w':=by
 have hu63:=Tryz.underlying63
 have HB:=Aside0.mk (Below.refl w.heap.size w)
 have H:(if a0_0=1 then ((spec_l1Plain.f k a0_1).bind fun t139=>(if 1+t139.size≤9223372036854775807 then (some ((⟨#[88]⟩:ByteArray)++t139)) else (none))) else (if a0_0=2 then (if a0_1<0 then ((spec_l1Plain.f k (wrap64 (-a0_1))).bind fun t140=>(if 1+t140.size≤9223372036854775807 then (some ((⟨#[45]⟩:ByteArray)++t140)) else (none))) else ((spec_l1Plain.f k a0_1).bind fun t141=>(some t141))) else (some a0_2)))=some r:=h
 clear h
 by_cases c2:a0_0=1
 ·rw [if_pos c2] at H
  have c2b0:(a0_0 == 1)=true:=beq_iff_eq.mpr c2
  have c2b1:(a0_0 != 1)=false:=bne_eq_false_iff_eq.mpr c2
  clear c2
  replace H:=Option.bind_eq_some_iff.mp H
  obtain ⟨t139,A30,H⟩:=H
  try dsimp only at H
  have A3:=Aside0.mk A30
  clear A30
  by_cases c4:1+t139.size≤9223372036854775807
  ·rw [if_pos c4] at H
   have c4b0:=eq_true c4
   have c4b1:decide (1+t139.size≤9223372036854775807)=true:=decide_eq_true c4
   try have c4b2:(9223372036854775807<1+t139.size)=False:=eq_false (Nat.not_lt.2 c4)
   obtain rfl:=Option.some.inj H
   go_enter Tryz.func63,Tryz.ntmps63
   go_wp2_with (first|((with_reducible refine gate_dst (N:=1) rfl ?_);refine box_event ?hg (N:=1) ?hd (cs:=#[.int .i64 a0_0,.int .i64 a0_1,.string a0_2]) (t:=63) ?hr ?_;(case hd=>rfl);(case hg=>rfl);(case hr=>first|(go_simp;done)|(go_simp;rfl));intro gb138 hg w5 hbox hb;have n0_:=Aside0.mk (below_step qz1 hb);have n1_:=Aside0.mk (hbox);have n2_:=Aside0.mk ((by rw [hg];exact (below_size qz1):w.heap.size≤gb138));have n3_:=Aside0.mk ((by rw [hg];exact (below_size qz1):w.heap.size≤gb138));clear HB;have HB:=n0_;have BK138:=n1_;have GW138:=n2_;have GE138:=n3_;clear n0_ n1_ n2_ n3_ hb hbox hg;have hcz6_0:w5.cell? ⟨gb138,0,none⟩=some (.int .i64 a0_0):=(blk_cell BK138.out 0).trans rfl;have hcz6_1:w5.cell? ⟨gb138,1,none⟩=some (.int .i64 a0_1):=(blk_cell BK138.out 1).trans rfl;have hcz6_2:w5.cell? ⟨gb138,2,none⟩=some (.string a0_2):=(blk_cell BK138.out 2).trans rfl;have hfz6_0:=blk_frozen BK138.out 0;have hfz6_1:=blk_frozen BK138.out 1;have hfz6_2:=blk_frozen BK138.out 2)|((with_reducible refine gate_callee (f:=91) rfl ?_);refine goesL_ (some 9) rfl rfl Tryz.func91 (by kernel_rfl) rfl #[.int .i64 a0_1] rfl qz2 ?_;(with_reducible refine (spec_l1Plain.calls k a0_1 t139 _ A3.out).mono ?_);rintro e w7 ⟨rfl,hb⟩;refine ⟨_,rfl,?_⟩;have n0_:=Aside0.mk (blk_below (g:=gb138) (o:=.cells #[.int .i64 a0_0,.int .i64 a0_1,.string a0_2] 63 (0,0)) qz150 hb);have n1_:=Aside0.mk (below_step qz69 hb);clear BK138 HB;have BK138:=n0_;have HB:=n1_;clear n0_ n1_;(try clear hb);(try clear hb2);(try clear hk);(try clear hi)))
   go_ret
   exact ⟨qz4,qz69⟩
  ·rw [if_neg c4] at H
   exact absurd H (by simp)
 ·rw [if_neg c2] at H
  have c2b0:(a0_0 == 1)=false:=beq_eq_false_iff_ne.mpr c2
  have c2b1:(a0_0 != 1)=true:=bne_iff_ne.mpr c2
  by_cases c8:a0_0=2
  ·rw [if_pos c8] at H
   have c8b0:(a0_0 == 2)=true:=beq_iff_eq.mpr c8
   have c8b1:(a0_0 != 2)=false:=bne_eq_false_iff_eq.mpr c8
   clear c8
   by_cases c9:a0_1<0
   ·rw [if_pos c9] at H
    have c9b0:decide (a0_1<0)=true:=decide_eq_true c9
    clear c9
    replace H:=Option.bind_eq_some_iff.mp H
    obtain ⟨t140,A100,H⟩:=H
    try dsimp only at H
    have A10:=Aside0.mk A100
    clear A100
    by_cases c11:1+t140.size≤9223372036854775807
    ·rw [if_pos c11] at H
     have c11b0:=eq_true c11
     have c11b1:decide (1+t140.size≤9223372036854775807)=true:=decide_eq_true c11
     try have c11b2:(9223372036854775807<1+t140.size)=False:=eq_false (Nat.not_lt.2 c11)
     obtain rfl:=Option.some.inj H
     go_enter Tryz.func63,Tryz.ntmps63
     go_wp2_with (first|((with_reducible refine gate_dst (N:=1) rfl ?_);refine box_event ?hg (N:=1) ?hd (cs:=#[.int .i64 a0_0,.int .i64 a0_1,.string a0_2]) (t:=63) ?hr ?_;(case hd=>rfl);(case hg=>rfl);(case hr=>first|(go_simp;done)|(go_simp;rfl));intro gb138 hg w12 hbox hb;have n0_:=Aside0.mk (below_step qz1 hb);have n1_:=Aside0.mk (hbox);have n2_:=Aside0.mk ((by rw [hg];exact (below_size qz1):w.heap.size≤gb138));have n3_:=Aside0.mk ((by rw [hg];exact (below_size qz1):w.heap.size≤gb138));clear HB;have HB:=n0_;have BK138:=n1_;have GW138:=n2_;have GE138:=n3_;clear n0_ n1_ n2_ n3_ hb hbox hg;have hcz13_0:w12.cell? ⟨gb138,0,none⟩=some (.int .i64 a0_0):=(blk_cell BK138.out 0).trans rfl;have hcz13_1:w12.cell? ⟨gb138,1,none⟩=some (.int .i64 a0_1):=(blk_cell BK138.out 1).trans rfl;have hcz13_2:w12.cell? ⟨gb138,2,none⟩=some (.string a0_2):=(blk_cell BK138.out 2).trans rfl;have hfz13_0:=blk_frozen BK138.out 0;have hfz13_1:=blk_frozen BK138.out 1;have hfz13_2:=blk_frozen BK138.out 2)|((with_reducible refine gate_callee (f:=91) rfl ?_);refine goesL_ (some 19) rfl rfl Tryz.func91 (by kernel_rfl) rfl #[.int .i64 (wrap64 (-a0_1))] rfl qz2 ?_;(with_reducible refine (spec_l1Plain.calls k (wrap64 (-a0_1)) t140 _ A10.out).mono ?_);rintro e w14 ⟨rfl,hb⟩;refine ⟨_,rfl,?_⟩;have n0_:=Aside0.mk (blk_below (g:=gb138) (o:=.cells #[.int .i64 a0_0,.int .i64 a0_1,.string a0_2] 63 (0,0)) qz150 hb);have n1_:=Aside0.mk (below_step qz69 hb);clear BK138 HB;have BK138:=n0_;have HB:=n1_;clear n0_ n1_;(try clear hb);(try clear hb2);(try clear hk);(try clear hi)))
     go_ret
     exact ⟨qz4,qz69⟩
    ·rw [if_neg c11] at H
     exact absurd H (by simp)
   ·rw [if_neg c9] at H
    have c9b0:decide (a0_1<0)=false:=decide_eq_false c9
    clear c9
    replace H:=Option.bind_eq_some_iff.mp H
    obtain ⟨t141,A150,H⟩:=H
    try dsimp only at H
    have A15:=Aside0.mk A150
    clear A150
    obtain rfl:=Option.some.inj H
    go_enter Tryz.func63,Tryz.ntmps63
    go_wp2_with (first|((with_reducible refine gate_dst (N:=1) rfl ?_);refine box_event ?hg (N:=1) ?hd (cs:=#[.int .i64 a0_0,.int .i64 a0_1,.string a0_2]) (t:=63) ?hr ?_;(case hd=>rfl);(case hg=>rfl);(case hr=>first|(go_simp;done)|(go_simp;rfl));intro gb138 hg w16 hbox hb;have n0_:=Aside0.mk (below_step qz1 hb);have n1_:=Aside0.mk (hbox);have n2_:=Aside0.mk ((by rw [hg];exact (below_size qz1):w.heap.size≤gb138));have n3_:=Aside0.mk ((by rw [hg];exact (below_size qz1):w.heap.size≤gb138));clear HB;have HB:=n0_;have BK138:=n1_;have GW138:=n2_;have GE138:=n3_;clear n0_ n1_ n2_ n3_ hb hbox hg;have hcz17_0:w16.cell? ⟨gb138,0,none⟩=some (.int .i64 a0_0):=(blk_cell BK138.out 0).trans rfl;have hcz17_1:w16.cell? ⟨gb138,1,none⟩=some (.int .i64 a0_1):=(blk_cell BK138.out 1).trans rfl;have hcz17_2:w16.cell? ⟨gb138,2,none⟩=some (.string a0_2):=(blk_cell BK138.out 2).trans rfl;have hfz17_0:=blk_frozen BK138.out 0;have hfz17_1:=blk_frozen BK138.out 1;have hfz17_2:=blk_frozen BK138.out 2)|((with_reducible refine gate_callee (f:=91) rfl ?_);refine goesL_ (some 23) rfl rfl Tryz.func91 (by kernel_rfl) rfl #[.int .i64 a0_1] rfl qz2 ?_;(with_reducible refine (spec_l1Plain.calls k a0_1 t141 _ A15.out).mono ?_);rintro e w18 ⟨rfl,hb⟩;refine ⟨_,rfl,?_⟩;have n0_:=Aside0.mk (blk_below (g:=gb138) (o:=.cells #[.int .i64 a0_0,.int .i64 a0_1,.string a0_2] 63 (0,0)) qz150 hb);have n1_:=Aside0.mk (below_step qz69 hb);clear BK138 HB;have BK138:=n0_;have HB:=n1_;clear n0_ n1_;(try clear hb);(try clear hb2);(try clear hk);(try clear hi)))
    go_ret
    exact ⟨qz4,qz69⟩
  ·rw [if_neg c8] at H
   have c8b0:(a0_0 == 2)=false:=beq_eq_false_iff_ne.mpr c8
   have c8b1:(a0_0 != 2)=true:=bne_iff_ne.mpr c8
   obtain rfl:=Option.some.inj H
   go_enter Tryz.func63,Tryz.ntmps63
   go_wp2_with (first|((with_reducible refine gate_dst (N:=1) rfl ?_);refine box_event ?hg (N:=1) ?hd (cs:=#[.int .i64 a0_0,.int .i64 a0_1,.string a0_2]) (t:=63) ?hr ?_;(case hd=>rfl);(case hg=>rfl);(case hr=>first|(go_simp;done)|(go_simp;rfl));intro gb138 hg w19 hbox hb;have n0_:=Aside0.mk (below_step qz1 hb);have n1_:=Aside0.mk (hbox);have n2_:=Aside0.mk ((by rw [hg];exact (below_size qz1):w.heap.size≤gb138));have n3_:=Aside0.mk ((by rw [hg];exact (below_size qz1):w.heap.size≤gb138));clear HB;have HB:=n0_;have BK138:=n1_;have GW138:=n2_;have GE138:=n3_;clear n0_ n1_ n2_ n3_ hb hbox hg;have hcz20_0:w19.cell? ⟨gb138,0,none⟩=some (.int .i64 a0_0):=(blk_cell BK138.out 0).trans rfl;have hcz20_1:w19.cell? ⟨gb138,1,none⟩=some (.int .i64 a0_1):=(blk_cell BK138.out 1).trans rfl;have hcz20_2:w19.cell? ⟨gb138,2,none⟩=some (.string a0_2):=(blk_cell BK138.out 2).trans rfl;have hfz20_0:=blk_frozen BK138.out 0;have hfz20_1:=blk_frozen BK138.out 1;have hfz20_2:=blk_frozen BK138.out 2))
   go_ret
   exact ⟨qz4,qz69⟩

end Go.Proofs.YtlhniagacegbeaaGreatDoor.P
