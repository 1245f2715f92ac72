/- Contracts of functions of the program: each as a Lean function, and that its call does what that says; printed by cprint.py (this session) over print.py of the kit. Conditions: the hypotheses of each theorem. -/
import Derived.Test.YtepkgjcobocbpaaDoorVZ
import Derived.Test.YtepkgjcobocbpaaDoorP0
import Derived.Test.YtepkgjcobocbpaaDoorP12
namespace Go.Proofs.YtepkgjcobocbpaaDoor.P
open Go.RowKit Go.Proofs.YtepkgjcobocbpaaDoorW.PrintWords Go.Proofs.YtepkgjcobocbpaaDoorW.PrintLast Go.Proofs.YtepkgjcobocbpaaDoorW.PrintMore
attribute [local go_sem] max2_int min2_int max_two min_two max_three min_three max_four min_four   -- for this text's walks alone
set_option linter.unusedVariables false
set_option linter.unusedSimpArgs false

/-! ### laws_szPrgProg: function 6 -/
def laws_szPrgProg.f (k:Nat) (l0_0:List (S79)) (l0_1:List (S82)) (a1:Int):Option (Int):=(laws_szPrgClauseS.f k l0_0 a1).bind fun t119=>(if t119<0 then (some (-1)) else ((laws_szPrgPlaceS.f k l0_1 t119).bind fun t120=>(if t120<0 then (some (-1)) else (some t120))))
set_option maxHeartbeats 8000000 in
set_option maxRecDepth 100000 in
theorem laws_szPrgProg.calls (k:Nat) (A0_0:Option Addr) (c0_0:Nat) (l0_0:List (S79)) (A0_1:Option Addr) (c0_1:Nat) (l0_1:List (S82)) (a1:Int) (r:Int) (w:World) (hr0_0:Kd.C k79 w A0_0 l0_0.length l0_0) (hc0_0:l0_0.length≤c0_0) (hr0_1:Kd.C k82 w A0_1 l0_1.length l0_1) (hc0_1:l0_1.length≤c0_1) (h:laws_szPrgProg.f k l0_0 l0_1 a1=some r) :
  Calls Tryd.prog 6 #[.agg #[.slice A0_0 l0_0.length c0_0,.slice A0_1 l0_1.length c0_1],.int .i64 a1] w fun e w'=>e = .returned (.int .i64 r)∧Below w.heap.size w w':=by
 have hu25:=Tryd.underlying25
 have HR0_0:=Aside0.mk hr0_0
 have HC0_0:=Aside0.mk hc0_0
 clear hr0_0 hc0_0
 have HR0_1:=Aside0.mk hr0_1
 have HC0_1:=Aside0.mk hc0_1
 clear hr0_1 hc0_1
 have HB:=Aside0.mk (Below.refl w.heap.size w)
 have H:((laws_szPrgClauseS.f k l0_0 a1).bind fun t119=>(if t119<0 then (some (-1)) else ((laws_szPrgPlaceS.f k l0_1 t119).bind fun t120=>(if t120<0 then (some (-1)) else (some t120)))))=some r:=h
 clear h
 replace H:=Option.bind_eq_some_iff.mp H
 obtain ⟨t119,A30,H⟩:=H
 try dsimp only at H
 have A3:=Aside0.mk A30
 clear A30
 by_cases c4:t119<0
 ·rw [if_pos c4] at H
  have c4b0:decide (t119<0)=true:=decide_eq_true c4
  clear c4
  obtain rfl:=Option.some.inj H
  go_enter Tryd.func6,Tryd.ntmps6
  go_wp2_with (first|((with_reducible refine gate_dst (N:=2) rfl ?_);refine box_event ?hg (N:=2) ?hd (cs:=#[.slice A0_0 l0_0.length c0_0,.slice A0_1 l0_1.length c0_1]) (t:=25) ?hr ?_;(case hd=>rfl);(case hg=>rfl);(case hr=>first|(go_simp;done)|(go_simp;rfl));intro gb118 hg w5 hbox hb;have n0_:=Aside0.mk (below_step qz1 hb);have n1_:=Aside0.mk (hbox);have n2_:=Aside0.mk ((by rw [hg];exact (below_size qz1):w.heap.size≤gb118));have n3_:=Aside0.mk ((by rw [hg];exact (below_size qz1):w.heap.size≤gb118));clear HB;have HB:=n0_;have BK118:=n1_;have GW118:=n2_;have GE118:=n3_;clear n0_ n1_ n2_ n3_ hb hbox hg;have hcz6_0:w5.cell? ⟨gb118,0,none⟩=some (.slice A0_0 l0_0.length c0_0):=(blk_cell BK118.out 0).trans rfl;have hcz6_1:w5.cell? ⟨gb118,1,none⟩=some (.slice A0_1 l0_1.length c0_1):=(blk_cell BK118.out 1).trans rfl;have hfz6_0:=blk_frozen BK118.out 0;have hfz6_1:=blk_frozen BK118.out 1)|((with_reducible refine gate_callee (f:=26) rfl ?_);refine goesL_ (some 8) rfl rfl Tryd.func26 (by kernel_rfl) rfl #[.slice A0_0 l0_0.length c0_0,.int .i64 a1] rfl qz2 ?_;(with_reducible refine (laws_szPrgClauseS.calls k _ _ l0_0 a1 t119 _ ?side1 ?side2 A3.out).mono ?_);(case side1=>exact qz8);(case side2=>exact HC0_0.out);rintro e w7 ⟨rfl,hb⟩;refine ⟨_,rfl,?_⟩;have n0_:=Aside0.mk (blk_below (g:=gb118) (o:=.cells #[.slice A0_0 l0_0.length c0_0,.slice A0_1 l0_1.length c0_1] 25 (0,0)) qz107 hb);have n1_:=Aside0.mk (below_step qz65 hb);clear BK118 HB;have BK118:=n0_;have HB:=n1_;clear n0_ n1_;(try clear hb);(try clear hb2);(try clear hk);(try clear hi)))
  go_ret
  exact ⟨qz3,qz65⟩
 ·rw [if_neg c4] at H
  have c4b0:decide (t119<0)=false:=decide_eq_false c4
  clear c4
  replace H:=Option.bind_eq_some_iff.mp H
  obtain ⟨t120,A80,H⟩:=H
  try dsimp only at H
  have A8:=Aside0.mk A80
  clear A80
  by_cases c9:t120<0
  ·rw [if_pos c9] at H
   have c9b0:decide (t120<0)=true:=decide_eq_true c9
   clear c9
   obtain rfl:=Option.some.inj H
   go_enter Tryd.func6,Tryd.ntmps6
   go_wp2_with (first|((with_reducible refine gate_dst (N:=2) rfl ?_);refine box_event ?hg (N:=2) ?hd (cs:=#[.slice A0_0 l0_0.length c0_0,.slice A0_1 l0_1.length c0_1]) (t:=25) ?hr ?_;(case hd=>rfl);(case hg=>rfl);(case hr=>first|(go_simp;done)|(go_simp;rfl));intro gb118 hg w10 hbox hb;have n0_:=Aside0.mk (below_step qz1 hb);have n1_:=Aside0.mk (hbox);have n2_:=Aside0.mk ((by rw [hg];exact (below_size qz1):w.heap.size≤gb118));have n3_:=Aside0.mk ((by rw [hg];exact (below_size qz1):w.heap.size≤gb118));clear HB;have HB:=n0_;have BK118:=n1_;have GW118:=n2_;have GE118:=n3_;clear n0_ n1_ n2_ n3_ hb hbox hg;have hcz11_0:w10.cell? ⟨gb118,0,none⟩=some (.slice A0_0 l0_0.length c0_0):=(blk_cell BK118.out 0).trans rfl;have hcz11_1:w10.cell? ⟨gb118,1,none⟩=some (.slice A0_1 l0_1.length c0_1):=(blk_cell BK118.out 1).trans rfl;have hfz11_0:=blk_frozen BK118.out 0;have hfz11_1:=blk_frozen BK118.out 1)|((with_reducible refine gate_callee (f:=26) rfl ?_);refine goesL_ (some 8) rfl rfl Tryd.func26 (by kernel_rfl) rfl #[.slice A0_0 l0_0.length c0_0,.int .i64 a1] rfl qz2 ?_;(with_reducible refine (laws_szPrgClauseS.calls k _ _ l0_0 a1 t119 _ ?side1 ?side2 A3.out).mono ?_);(case side1=>exact qz8);(case side2=>exact HC0_0.out);rintro e w12 ⟨rfl,hb⟩;refine ⟨_,rfl,?_⟩;have n0_:=Aside0.mk (blk_below (g:=gb118) (o:=.cells #[.slice A0_0 l0_0.length c0_0,.slice A0_1 l0_1.length c0_1] 25 (0,0)) qz107 hb);have n1_:=Aside0.mk (below_step qz65 hb);clear BK118 HB;have BK118:=n0_;have HB:=n1_;clear n0_ n1_;(try clear hb);(try clear hb2);(try clear hk);(try clear hi);have hcz13_0:w12.cell? ⟨gb118,0,none⟩=some (.slice A0_0 l0_0.length c0_0):=(blk_cell BK118.out 0).trans rfl;have hcz13_1:w12.cell? ⟨gb118,1,none⟩=some (.slice A0_1 l0_1.length c0_1):=(blk_cell BK118.out 1).trans rfl;have hfz13_0:=blk_frozen BK118.out 0;have hfz13_1:=blk_frozen BK118.out 1)|((with_reducible refine gate_callee (f:=27) rfl ?_);refine goesL_ (some 14) rfl rfl Tryd.func27 (by kernel_rfl) rfl #[.slice A0_1 l0_1.length c0_1,.int .i64 t119] rfl qz2 ?_;(with_reducible refine (laws_szPrgPlaceS.calls k _ _ l0_1 t119 t120 _ ?side1 ?side2 A8.out).mono ?_);(case side1=>exact qz5);(case side2=>exact HC0_1.out);rintro e w14 ⟨rfl,hb⟩;refine ⟨_,rfl,?_⟩;have n0_:=Aside0.mk (blk_below (g:=gb118) (o:=.cells #[.slice A0_0 l0_0.length c0_0,.slice A0_1 l0_1.length c0_1] 25 (0,0)) qz107 hb);have n1_:=Aside0.mk (below_step qz65 hb);clear BK118 HB;have BK118:=n0_;have HB:=n1_;clear n0_ n1_;(try clear hb);(try clear hb2);(try clear hk);(try clear hi)))
   go_ret
   exact ⟨qz3,qz65⟩
  ·rw [if_neg c9] at H
   have c9b0:decide (t120<0)=false:=decide_eq_false c9
   clear c9
   obtain rfl:=Option.some.inj H
   go_enter Tryd.func6,Tryd.ntmps6
   go_wp2_with (first|((with_reducible refine gate_dst (N:=2) rfl ?_);refine box_event ?hg (N:=2) ?hd (cs:=#[.slice A0_0 l0_0.length c0_0,.slice A0_1 l0_1.length c0_1]) (t:=25) ?hr ?_;(case hd=>rfl);(case hg=>rfl);(case hr=>first|(go_simp;done)|(go_simp;rfl));intro gb118 hg w15 hbox hb;have n0_:=Aside0.mk (below_step qz1 hb);have n1_:=Aside0.mk (hbox);have n2_:=Aside0.mk ((by rw [hg];exact (below_size qz1):w.heap.size≤gb118));have n3_:=Aside0.mk ((by rw [hg];exact (below_size qz1):w.heap.size≤gb118));clear HB;have HB:=n0_;have BK118:=n1_;have GW118:=n2_;have GE118:=n3_;clear n0_ n1_ n2_ n3_ hb hbox hg;have hcz16_0:w15.cell? ⟨gb118,0,none⟩=some (.slice A0_0 l0_0.length c0_0):=(blk_cell BK118.out 0).trans rfl;have hcz16_1:w15.cell? ⟨gb118,1,none⟩=some (.slice A0_1 l0_1.length c0_1):=(blk_cell BK118.out 1).trans rfl;have hfz16_0:=blk_frozen BK118.out 0;have hfz16_1:=blk_frozen BK118.out 1)|((with_reducible refine gate_callee (f:=26) rfl ?_);refine goesL_ (some 8) rfl rfl Tryd.func26 (by kernel_rfl) rfl #[.slice A0_0 l0_0.length c0_0,.int .i64 a1] rfl qz2 ?_;(with_reducible refine (laws_szPrgClauseS.calls k _ _ l0_0 a1 t119 _ ?side1 ?side2 A3.out).mono ?_);(case side1=>exact qz8);(case side2=>exact HC0_0.out);rintro e w17 ⟨rfl,hb⟩;refine ⟨_,rfl,?_⟩;have n0_:=Aside0.mk (blk_below (g:=gb118) (o:=.cells #[.slice A0_0 l0_0.length c0_0,.slice A0_1 l0_1.length c0_1] 25 (0,0)) qz107 hb);have n1_:=Aside0.mk (below_step qz65 hb);clear BK118 HB;have BK118:=n0_;have HB:=n1_;clear n0_ n1_;(try clear hb);(try clear hb2);(try clear hk);(try clear hi);have hcz18_0:w17.cell? ⟨gb118,0,none⟩=some (.slice A0_0 l0_0.length c0_0):=(blk_cell BK118.out 0).trans rfl;have hcz18_1:w17.cell? ⟨gb118,1,none⟩=some (.slice A0_1 l0_1.length c0_1):=(blk_cell BK118.out 1).trans rfl;have hfz18_0:=blk_frozen BK118.out 0;have hfz18_1:=blk_frozen BK118.out 1)|((with_reducible refine gate_callee (f:=27) rfl ?_);refine goesL_ (some 14) rfl rfl Tryd.func27 (by kernel_rfl) rfl #[.slice A0_1 l0_1.length c0_1,.int .i64 t119] rfl qz2 ?_;(with_reducible refine (laws_szPrgPlaceS.calls k _ _ l0_1 t119 t120 _ ?side1 ?side2 A8.out).mono ?_);(case side1=>exact qz5);(case side2=>exact HC0_1.out);rintro e w19 ⟨rfl,hb⟩;refine ⟨_,rfl,?_⟩;have n0_:=Aside0.mk (blk_below (g:=gb118) (o:=.cells #[.slice A0_0 l0_0.length c0_0,.slice A0_1 l0_1.length c0_1] 25 (0,0)) qz107 hb);have n1_:=Aside0.mk (below_step qz65 hb);clear BK118 HB;have BK118:=n0_;have HB:=n1_;clear n0_ n1_;(try clear hb);(try clear hb2);(try clear hk);(try clear hi)))
   go_ret
   exact ⟨qz3,qz65⟩

/-! ### laws_toTrmCell: function 35 -/
def laws_toTrmCell.f (a0_0:Int) (a0_1:Int) (a0_2:ByteArray):Option (Int × Int × ByteArray):=some (a0_0,a0_1,a0_2)
set_option maxHeartbeats 8000000 in
set_option maxRecDepth 100000 in
theorem laws_toTrmCell.calls (a0_0:Int) (a0_1:Int) (a0_2:ByteArray) (r1:Int) (r2:Int) (r3:ByteArray) (w:World) (h:laws_toTrmCell.f a0_0 a0_1 a0_2=some (r1,r2,r3)) :
  Calls Tryd.prog 35 #[.agg #[.int .i64 a0_0,.int .i64 a0_1,.string a0_2]] w fun e w'=>e = .returned (.agg #[.int .i64 r1,.int .i64 r2,.string r3])∧Below w.heap.size w w':=by
 have hu61:=Tryd.underlying61
 have hu47:=Tryd.underlying47
 have HB:=Aside0.mk (Below.refl w.heap.size w)
 have H:(some (a0_0,a0_1,a0_2))=some (r1,r2,r3):=h
 clear h
 simp only [Option.some.injEq,Prod.mk.injEq] at H
 obtain ⟨rfl,rfl,rfl⟩:=H
 go_enter Tryd.func35,Tryd.ntmps35
 go_wp2_with (first|((with_reducible refine gate_dst (N:=1) rfl ?_);refine box_event ?hg (N:=1) ?hd (cs:=#[.int .i64 a0_0,.int .i64 a0_1,.string a0_2]) (t:=61) ?hr ?_;(case hd=>rfl);(case hg=>rfl);(case hr=>first|(go_simp;done)|(go_simp;rfl));intro gb172 hg w2 hbox hb;have n0_:=Aside0.mk (below_step qz1 hb);have n1_:=Aside0.mk (hbox);have n2_:=Aside0.mk ((by rw [hg];exact (below_size qz1):w.heap.size≤gb172));have n3_:=Aside0.mk ((by rw [hg];exact (below_size qz1):w.heap.size≤gb172));clear HB;have HB:=n0_;have BK172:=n1_;have GW172:=n2_;have GE172:=n3_;clear n0_ n1_ n2_ n3_ hb hbox hg)|((with_reducible refine gate_dst (N:=2) rfl ?_);refine box_event ?hg (N:=2) ?hd (cs:=#[.int .i64 0,.int .i64 0,.string (⟨#[]⟩:ByteArray)]) (t:=47) ?hr ?_;(case hd=>rfl);(case hg=>rfl);(case hr=>first|(go_simp;done)|(go_simp;rfl));intro gb173 hg w3 hbox hb;have n0_:=Aside0.mk (blk_below (g:=gb172) (o:=.cells #[.int .i64 a0_0,.int .i64 a0_1,.string a0_2] 61 (0,0)) qz95 hb);have n1_:=Aside0.mk (below_step qz132 hb);have n2_:=Aside0.mk (hbox);have n3_:=Aside0.mk ((by rw [hg];exact (below_size qz132):w.heap.size≤gb173));have n4_:=Aside0.mk ((by rw [hg];exact (below_size qz132):w.heap.size≤gb173));have n5_:=Aside0.mk ((by rw [hg];exact Nat.ne_of_lt (blk_lt (g:=gb172) (o:=.cells #[.int .i64 a0_0,.int .i64 a0_1,.string a0_2] 61 (0,0)) qz95):gb172≠gb173));have n6_:=Aside0.mk ((by rw [hg];exact Nat.ne_of_gt (blk_lt (g:=gb172) (o:=.cells #[.int .i64 a0_0,.int .i64 a0_1,.string a0_2] 61 (0,0)) qz95):gb173≠gb172));clear BK172 HB;have BK172:=n0_;have HB:=n1_;have BK173:=n2_;have GW173:=n3_;have GE173:=n4_;have NB172_173:=n5_;have NB173_172:=n6_;clear n0_ n1_ n2_ n3_ n4_ n5_ n6_ hb hbox hg)|((with_reducible refine gate_dst (N:=3) rfl ?_);refine box_event ?hg (N:=3) ?hd (cs:=#[.int .i64 0,.int .i64 0,.string (⟨#[]⟩:ByteArray)]) (t:=47) ?hr ?_;(case hd=>rfl);(case hg=>rfl);(case hr=>first|(go_simp;done)|(go_simp;rfl));intro gb174 hg w4 hbox hb;have n0_:=Aside0.mk (blk_below (g:=gb172) (o:=.cells #[.int .i64 a0_0,.int .i64 a0_1,.string a0_2] 61 (0,0)) qz95 hb);have n1_:=Aside0.mk (blk_below (g:=gb173) (o:=.cells #[.int .i64 0,.int .i64 0,.string (⟨#[]⟩:ByteArray)] 47 (0,0)) qz142 hb);have n2_:=Aside0.mk (below_step qz115 hb);have n3_:=Aside0.mk (hbox);have n4_:=Aside0.mk ((by rw [hg];exact (below_size qz115):w.heap.size≤gb174));have n5_:=Aside0.mk ((by rw [hg];exact (below_size qz115):w.heap.size≤gb174));have n6_:=Aside0.mk ((by rw [hg];exact Nat.ne_of_lt (blk_lt (g:=gb172) (o:=.cells #[.int .i64 a0_0,.int .i64 a0_1,.string a0_2] 61 (0,0)) qz95):gb172≠gb174));have n7_:=Aside0.mk ((by rw [hg];exact Nat.ne_of_gt (blk_lt (g:=gb172) (o:=.cells #[.int .i64 a0_0,.int .i64 a0_1,.string a0_2] 61 (0,0)) qz95):gb174≠gb172));have n8_:=Aside0.mk ((by rw [hg];exact Nat.ne_of_lt (blk_lt (g:=gb173) (o:=.cells #[.int .i64 0,.int .i64 0,.string (⟨#[]⟩:ByteArray)] 47 (0,0)) qz142):gb173≠gb174));have n9_:=Aside0.mk ((by rw [hg];exact Nat.ne_of_gt (blk_lt (g:=gb173) (o:=.cells #[.int .i64 0,.int .i64 0,.string (⟨#[]⟩:ByteArray)] 47 (0,0)) qz142):gb174≠gb173));clear BK172 BK173 HB;have BK172:=n0_;have BK173:=n1_;have HB:=n2_;have BK174:=n3_;have GW174:=n4_;have GE174:=n5_;have NB172_174:=n6_;have NB174_172:=n7_;have NB173_174:=n8_;have NB174_173:=n9_;clear n0_ n1_ n2_ n3_ n4_ n5_ n6_ n7_ n8_ n9_ hb hbox hg;have hnb5:=NB172_173.out;have hnc5:=NB173_172.out;have hnb6:=NB172_174.out;have hnc6:=NB174_172.out;have hcz7_0:w4.cell? ⟨gb172,0,none⟩=some (.int .i64 a0_0):=(blk_cell BK172.out 0).trans rfl;have hcz7_1:w4.cell? ⟨gb172,1,none⟩=some (.int .i64 a0_1):=(blk_cell BK172.out 1).trans rfl;have hcz7_2:w4.cell? ⟨gb172,2,none⟩=some (.string a0_2):=(blk_cell BK172.out 2).trans rfl;have hfz7_0:=blk_frozen BK172.out 0;have hfz7_1:=blk_frozen BK172.out 1;have hfz7_2:=blk_frozen BK172.out 2;have hnb8:=NB174_173.out;have hnc8:=NB173_174.out;have hcz9_0:w4.cell? ⟨gb174,0,none⟩=some (.int .i64 0):=(blk_cell BK174.out 0).trans rfl;have hcz9_1:w4.cell? ⟨gb174,1,none⟩=some (.int .i64 0):=(blk_cell BK174.out 1).trans rfl;have hcz9_2:w4.cell? ⟨gb174,2,none⟩=some (.string (⟨#[]⟩:ByteArray)):=(blk_cell BK174.out 2).trans rfl;have hfz9_0:=blk_frozen BK174.out 0;have hfz9_1:=blk_frozen BK174.out 1;have hfz9_2:=blk_frozen BK174.out 2;have hcz10_0:w4.cell? ⟨gb173,0,none⟩=some (.int .i64 0):=(blk_cell BK173.out 0).trans rfl;have hcz10_1:w4.cell? ⟨gb173,1,none⟩=some (.int .i64 0):=(blk_cell BK173.out 1).trans rfl;have hcz10_2:w4.cell? ⟨gb173,2,none⟩=some (.string (⟨#[]⟩:ByteArray)):=(blk_cell BK173.out 2).trans rfl;have hfz10_0:=blk_frozen BK173.out 0;have hfz10_1:=blk_frozen BK173.out 1;have hfz10_2:=blk_frozen BK173.out 2))
 refine bodyPost_ret (results_cell_row rfl _ _ gb173 47 #[.int .i64 a0_0,.int .i64 a0_1,.string a0_2] (0,0) _ rfl (by (with_reducible repeat (first|refine blk_drewN ?_ _|refine blk_drew ?_|refine blk_alloc ?_ _));refine blk_put (cs:=#[.int .i64 a0_0,.int .i64 a0_1,.string (⟨#[]⟩:ByteArray)]) ?_ 2 _ rfl;(with_reducible repeat (first|refine blk_drewN ?_ _|refine blk_drew ?_|refine blk_alloc ?_ _));refine blk_put (cs:=#[.int .i64 a0_0,.int .i64 0,.string (⟨#[]⟩:ByteArray)]) ?_ 1 _ rfl;(with_reducible repeat (first|refine blk_drewN ?_ _|refine blk_drew ?_|refine blk_alloc ?_ _));refine blk_put (cs:=#[.int .i64 0,.int .i64 0,.string (⟨#[]⟩:ByteArray)]) ?_ 0 _ rfl;(with_reducible repeat (first|refine blk_drewN ?_ _|refine blk_drew ?_|refine blk_alloc ?_ _));refine blk_far ?_ NB173_174.out _;(with_reducible repeat (first|refine blk_drewN ?_ _|refine blk_drew ?_|refine blk_alloc ?_ _));refine blk_far ?_ NB173_174.out _;(with_reducible repeat (first|refine blk_drewN ?_ _|refine blk_drew ?_|refine blk_alloc ?_ _));refine blk_far ?_ NB173_174.out _;(with_reducible repeat (first|refine blk_drewN ?_ _|refine blk_drew ?_|refine blk_alloc ?_ _));exact BK173.out) Tryd.underlying47 rfl (by kernel_rfl)) rfl ?_
 exact ⟨qz3,by repeat (first|(with_reducible first|exact HB.out|apply below_alloc|apply pw_below_drewN|apply below_drew1|refine below_set ?_ GE172.out|refine below_set ?_ GE173.out|refine below_set ?_ GE174.out)|exact HB.out)⟩

/-! ### laws_toTrmCellS: function 10 -/
def laws_toTrmCellS.l0:Nat→List (S61)→List (S47)→Int→Option ((List (S47)))
 | 0,_,_,_=>none
 | k+1,x0,x3,x4=>if x4<(x0.length:Int) then (if 0≤x4 then ((laws_toTrmCell.f ((rd_T61 x0 x4).f0) ((rd_T61 x0 x4).f1) ((rd_T61 x0 x4).f2)).bind fun bt179=>(if x4<(x3.length:Int) then (laws_toTrmCellS.l0 k x0 (x3.set (x4:Int).toNat (⟨bt179.1,bt179.2.1,bt179.2.2⟩:S47)) (wrap64 (x4+1))) else (none))) else (none)) else (some x3)
def laws_toTrmCellS.f (k:Nat) (l0:List (S61)):Option ((List (S47))):=if 0≤(l0.length:Int) then (if ((l0.length:Int):Int).toNat≤8796093022208 then (laws_toTrmCellS.l0 k l0 (List.replicate ((l0.length:Int):Int).toNat z47) 0) else (none)) else (none)
set_option maxHeartbeats 8000000 in
set_option maxRecDepth 100000 in
theorem laws_toTrmCellS.calls (k:Nat) (A0:Option Addr) (c0:Nat) (l0:List (S61)) (r:List (S47)) (w:World) (hr0:Kd.C k61 w A0 l0.length l0) (hc0:l0.length≤c0) (h:laws_toTrmCellS.f k l0=some r) :
  Calls Tryd.prog 10 #[.slice A0 l0.length c0] w fun e w'=>∃ v0_:Value,e = .returned (v0_)∧Kd.R k47 47 w' w.heap.size (fun _=>True) v0_ r∧Below w.heap.size w w':=by
 have hu61:=Tryd.underlying61
 have hu47:=Tryd.underlying47
 have HR0:=Aside0.mk hr0
 have HC0:=Aside0.mk hc0
 clear hr0 hc0
 have HB:=Aside0.mk (Below.refl w.heap.size w)
 have H:(if 0≤(l0.length:Int) then (if ((l0.length:Int):Int).toNat≤8796093022208 then (laws_toTrmCellS.l0 k l0 (List.replicate ((l0.length:Int):Int).toNat z47) 0) else (none)) else (none))=some r:=h
 clear h
 by_cases c2:0≤(l0.length:Int)
 ·rw [if_pos c2] at H
  have c2b0:=eq_true c2
  have c2b1:decide (0≤(l0.length:Int))=true:=decide_eq_true c2
  clear c2
  by_cases c3:((l0.length:Int):Int).toNat≤8796093022208
  ·rw [if_pos c3] at H
   have c3b0:=eq_true c3
   have c3b1:decide (((l0.length:Int):Int).toNat≤8796093022208)=true:=decide_eq_true c3
   clear c3
   obtain ⟨y175,hy175⟩:∃ y_:List (S47),y_=(List.replicate ((l0.length:Int):Int).toNat z47):=⟨_,rfl⟩
   replace H:(laws_toTrmCellS.l0 k l0 y175 0)=some r:=by first|(rw [hy175];exact H)|exact H
   have Ny175:=Aside0.mk hy175
   clear hy175
   have H':=Aside0.mk H
   clear H
   go_enter Tryd.func10,Tryd.ntmps10
   go_wp2_with (first|((with_reducible refine gate_dst (N:=7) rfl ?_);refine Kd.R_make k47 _ 47 rfl (N:=7) rfl 35 _ _ rfl (l0.length:Int) rfl rfl Tryd.underlying35 (.agg #[(.int .i64 0),(.int .i64 0),(.string ⟨#[]⟩)]) 32 info47 rfl (by decide) (by omega) z47 (ok:=fun _=>True) (okp:=fun _=>True) (k47_mkM _ _ _ z47 ) (fun _ hk=>hk) trivial (of_decide_eq_true qz7) (Nat.le_trans (Nat.mul_le_mul_right _ (of_decide_eq_true qz7:(l0.length:Int).toNat≤8796093022208)) (by omega)) (Below.refl _ _) (Nat.le_refl _) ?_;intro v176 w4 ho5 hb hg_ hnew_;clear hg_ hnew_;(first|rw [← Ny175.out] at ho5|(simp only [Int.reduceToNat] at ho5;rw [← Ny175.out] at ho5));have n0_:=Aside0.mk (Kd.R_lower ho5 (below_size qz1));have n1_:=Aside0.mk (below_step qz1 hb);clear HB;have HO177:=n0_;have HB:=n1_;clear n0_ n1_ hb ho5))
   go_loopg [4] k (fun kq v4 w'=>∃ (x3_1:List (S47)) (x4_1:Int),v4 = .int .i64 x4_1∧Aside0 (laws_toTrmCellS.l0 kq l0 x3_1 x4_1=some r)∧Aside0 (kq≤k)∧Aside0 (Kd.R k47 47 w' w.heap.size (fun _=>True) v176 x3_1)∧Aside0 (Below w.heap.size w w'))
   case atStart=>exact ⟨(y175),(0),qz12,H',⟨Nat.le_refl _⟩,⟨by (with_reducible repeat (first|apply Kd.R_alloc|apply Kd.R_drewN|apply Kd.R_drew));exact HO177.out⟩,⟨qz4⟩⟩
   case round=>
    clear H'
    try clear c1
    try clear c2
    try clear c2b0
    try clear c2b1
    try clear p2
    try clear c3
    try clear c3b0
    try clear c3b1
    obtain ⟨x3_1,x4_1,rfl,HA,HK1,HO_3,HB⟩:=hrel
    cases gk with
    | zero=>exact absurd HA.out (by simp [laws_toTrmCellS.l0])
    | succ k1=>
     have H:=HA.out
     clear HA
     simp only [laws_toTrmCellS.l0] at H
     by_cases c6:x4_1<(l0.length:Int)
     ·rw [if_pos c6] at H
      have c6b0:decide (x4_1<(l0.length:Int))=true:=decide_eq_true c6
      clear c6
      by_cases c7:0≤x4_1
      ·rw [if_pos c7] at H
       have c7b0:decide (0≤x4_1)=true:=decide_eq_true c7
       clear c7
       replace H:=Option.bind_eq_some_iff.mp H
       obtain ⟨⟨t179,t180,t181⟩,A80,H⟩:=H
       try dsimp only at H
       have A8:=Aside0.mk A80
       clear A80
       by_cases c9:x4_1<(x3_1.length:Int)
       ·rw [if_pos c9] at H
        have c9b0:decide (x4_1<(x3_1.length:Int))=true:=decide_eq_true c9
        clear c9
        obtain ⟨y182,hy182⟩:∃ y_:List (S47),y_=(x3_1.set (x4_1:Int).toNat (⟨t179,t180,t181⟩:S47)):=⟨_,rfl⟩
        replace H:(laws_toTrmCellS.l0 k1 l0 y182 (wrap64 (x4_1+1)))=some r:=by first|(rw [hy182];exact H)|exact H
        have Ny182:=Aside0.mk hy182
        clear hy182
        have H':=Aside0.mk H
        clear H
        have p178:0≤(x4_1:Int):=of_decide_eq_true qz7
        have q178:x4_1<(l0.length:Int):=of_decide_eq_true qz7
        obtain ⟨ad178,e178,hx178_0,hx178_1,hx178_2⟩:=at_T61 HR0.out x4_1 p178 q178
        cases e178
        replace hx178_0:=(HB.out.cell (World.block_lt_of_cell? w _ hx178_0)).trans hx178_0
        replace hx178_1:=(HB.out.cell (World.block_lt_of_cell? w _ hx178_1)).trans hx178_1
        replace hx178_2:=(HB.out.cell (World.block_lt_of_cell? w _ hx178_2)).trans hx178_2
        replace p178:=eq_true p178
        replace q178:=eq_true q178
        go_wp2_with (first|((with_reducible refine gate_callee (f:=35) rfl ?_);refine goesL_ (some 20) rfl rfl Tryd.func35 (by kernel_rfl) rfl #[.agg #[.int .i64 ((rd_T61 l0 x4_1).f0),.int .i64 ((rd_T61 l0 x4_1).f1),.string ((rd_T61 l0 x4_1).f2)]] rfl qz2 ?_;(with_reducible refine (laws_toTrmCell.calls ((rd_T61 l0 x4_1).f0) ((rd_T61 l0 x4_1).f1) ((rd_T61 l0 x4_1).f2) t179 t180 t181 _ A8.out).mono ?_);rintro e w11 ⟨rfl,hb⟩;refine ⟨_,rfl,?_⟩;have n0_:=Aside0.mk (Kd.R_below qz74 hb);have n1_:=Aside0.mk (below_step qz1 hb);clear HO_3 HB;have HO_3:=n0_;have HB:=n1_;clear n0_ n1_;(try clear hb);(try clear hb2);(try clear hk);(try clear hi);have p10:0≤(x4_1:Int):=of_decide_eq_true qz7;have q10:(x4_1:Int)<((x3_1.length:Int):Int):=of_decide_eq_true qz7;obtain ⟨go10,co10,eo10,gb10,gl10,cl10,HG10⟩:=Kd.R_form HO_3.out (by omega);(first|cases eo10|(injection eo10 with ea_ en_ ec_;(first|subst ea_|(injection ea_ with ea_;subst ea_));subst ec_;clear en_));have GB10:=Aside0.mk gb10;have GG10:=Aside0.mk HG10;clear gb10 gl10 HG10;obtain ⟨ce10,hcl10,hM10,hcc10,hfr10⟩:=Kd.R_elem HO_3.out z47 (x4_1:Int) p10 q10;obtain rfl:=k47_openM hM10;have hx10_0:w11.cell? ⟨go10,(x4_1:Int).toNat * 3,none⟩=some (.int .i64 ((rd_T47 x3_1 x4_1).f0)):=hcc10 0 _ rfl;have hx10_1:w11.cell? ⟨go10,(x4_1:Int).toNat * 3+1,none⟩=some (.int .i64 ((rd_T47 x3_1 x4_1).f1)):=hcc10 1 _ rfl;have hx10_2:w11.cell? ⟨go10,(x4_1:Int).toNat * 3+2,none⟩=some (.string ((rd_T47 x3_1 x4_1).f2)):=hcc10 2 _ rfl;have hf10_0:w11.frozen? ⟨go10,(x4_1:Int).toNat * 3,none⟩=false:=hfr10 0;have hf10_1:w11.frozen? ⟨go10,(x4_1:Int).toNat * 3+1,none⟩=false:=hfr10 1;have hf10_2:w11.frozen? ⟨go10,(x4_1:Int).toNat * 3+2,none⟩=false:=hfr10 2;(try clear hcl10);(try clear hcc10);(try clear hfr10);(try clear hM10);replace p10:=eq_true p10;replace q10:=eq_true q10;have HX12:=Aside0.mk (show Kd.R k47 47 w11 w.heap.size (fun _=>True) (.slice (some ⟨go10,0,none⟩) x3_1.length co10) x3_1 from qz74);obtain ⟨ce12,hcl12,hM12,hcc12,hfr12⟩:=Kd.R_elem HX12.out z47 (x4_1:Int) (of_decide_eq_true qz7) (by have h_:(x4_1:Int)<((x3_1.length:Int):Int):=of_decide_eq_true qz7;first|exact h_|(have e_:=(Kd.R_reads' HO_3.out).1;omega)|simpa using h_);obtain rfl:=k47_openM hM12;have HP12:=Kd.R_seg HX12.out (x4_1:Int) (of_decide_eq_true qz7) (by have h_:(x4_1:Int)<((x3_1.length:Int):Int):=of_decide_eq_true qz7;first|exact h_|(have e_:=(Kd.R_reads' HO_3.out).1;omega)|simpa using h_) (seg:=[.int .i64 t179,.int .i64 t180,.string t181]) (j:=0) hcl12 hcc12 (show 3≤3 from by decide) (x':=(⟨t179,t180,t181⟩:S47)) (k47_mkM _ _ _ (⟨t179,t180,t181⟩:S47) ) (fun _ hk=>hk);have hx12_0:=hcc12 0 _ rfl;(try simp only [show (k47).sz=3 from rfl,Nat.mul_one,Nat.add_zero] at hx12_0);have hf12_0:=hfr12 0;(try simp only [show (k47).sz=3 from rfl,Nat.mul_one,Nat.add_zero] at hf12_0);have hx12_1:=hcc12 1 _ rfl;(try simp only [show (k47).sz=3 from rfl,Nat.mul_one,Nat.add_zero] at hx12_1);have hf12_1:=hfr12 1;(try simp only [show (k47).sz=3 from rfl,Nat.mul_one,Nat.add_zero] at hf12_1);have hx12_2:=hcc12 2 _ rfl;(try simp only [show (k47).sz=3 from rfl,Nat.mul_one,Nat.add_zero] at hx12_2);have hf12_2:=hfr12 2;(try simp only [show (k47).sz=3 from rfl,Nat.mul_one,Nat.add_zero] at hf12_2);clear hcl12 hcc12 hfr12 hM12)|((with_reducible refine gate_store (t:=47) (p:=21) rfl ?_);refine store_event (t:=47) (p:=21) (v:=?vo_w13) (w1:=(((w11.setCell ⟨go10,(x4_1:Int).toNat * 3,none⟩ (.int .i64 t179)).setCell ⟨go10,(x4_1:Int).toNat * 3+1,none⟩ (.int .i64 t180)).setCell ⟨go10,(x4_1:Int).toNat * 3+2,none⟩ (.string t181))) ?hg ?ho ?hn ?hr ?_;(case ho=>rfl);(case hg=>rfl);(case hn=>rfl);(case hr=>first|(go_simp;done)|(go_simp;rfl));intro w13 hw;have hg:w11.grownBy w13 (some go10):=(by rw [hw];exact HP12.2);have hp_:Kd.R k47 47 w13 w.heap.size (fun _=>True) (.slice (some ⟨go10,0,none⟩) x3_1.length co10) y182:=(by rw [hw,Ny182.out];exact HP12.1);clear HP12;have n0_:=Aside0.mk (hp_);have n1_:=Aside0.mk ((by rw [hw];exact below_set (below_set (below_set (HB.out) GB10.out) GB10.out) GB10.out:Below w.heap.size w w13));clear HO_3 HB;have HO_3:=n0_;have HB:=n1_;clear n0_ n1_ hg hw hp_))
        go_roundg k1
        case measure=>have:=HK1.out;omega
        case rel=>exact ⟨(y182),(wrap64 (x4_1+1)),qz12,H',⟨by have:=HK1.out;omega⟩,⟨qz74⟩,⟨qz4⟩⟩
       ·rw [if_neg c9] at H
        exact absurd H (by simp)
      ·rw [if_neg c7] at H
       exact absurd H (by simp)
     ·rw [if_neg c6] at H
      have c6b0:decide (x4_1<(l0.length:Int))=false:=decide_eq_false c6
      clear c6
      obtain rfl:=Option.some.inj H
      go_wp2
      go_ret
      exact ⟨_,qz3,qz74,qz4⟩
  ·rw [if_neg c3] at H
   exact absurd H (by simp)
 ·rw [if_neg c2] at H
  exact absurd H (by simp)

/-! ### laws_toPrgGoal: function 89 -/
def laws_toPrgGoal.f (k:Nat) (a0_0:Int) (l0_1:List (S61)) (l0_2:List (S61)) (l0_3:List (S61)):Option (Int × (List (S47)) × (List (S47)) × (List (S47))):=(laws_toTrmCellS.f k l0_1).bind fun t186=>((laws_toTrmCellS.f k l0_2).bind fun t189=>((laws_toTrmCellS.f k l0_3).bind fun t192=>(some (a0_0,t186,t189,t192))))
set_option maxHeartbeats 8000000 in
set_option maxRecDepth 100000 in
theorem laws_toPrgGoal.calls (k:Nat) (a0_0:Int) (A0_1:Option Addr) (c0_1:Nat) (l0_1:List (S61)) (A0_2:Option Addr) (c0_2:Nat) (l0_2:List (S61)) (A0_3:Option Addr) (c0_3:Nat) (l0_3:List (S61)) (r1:Int) (r2:List (S47)) (r3:List (S47)) (r4:List (S47)) (w:World) (hr0_1:Kd.C k61 w A0_1 l0_1.length l0_1) (hc0_1:l0_1.length≤c0_1) (hr0_2:Kd.C k61 w A0_2 l0_2.length l0_2) (hc0_2:l0_2.length≤c0_2) (hr0_3:Kd.C k61 w A0_3 l0_3.length l0_3) (hc0_3:l0_3.length≤c0_3) (h:laws_toPrgGoal.f k a0_0 l0_1 l0_2 l0_3=some (r1,r2,r3,r4)) :
  Calls Tryd.prog 89 #[.agg #[.int .i64 a0_0,.slice A0_1 l0_1.length c0_1,.slice A0_2 l0_2.length c0_2,.slice A0_3 l0_3.length c0_3]] w fun e w'=>∃ v1_ v2_ v3_:Value,e = .returned (.agg #[.int .i64 r1,v1_,v2_,v3_])∧Kd.R k47 47 w' w.heap.size (fun k_=>some k_≠(v2_:Value).ownBlock∧some k_≠(v3_:Value).ownBlock) v1_ r2∧Kd.R k47 47 w' w.heap.size (fun k_=>some k_≠(v1_:Value).ownBlock∧some k_≠(v3_:Value).ownBlock) v2_ r3∧Kd.R k47 47 w' w.heap.size (fun k_=>some k_≠(v1_:Value).ownBlock∧some k_≠(v2_:Value).ownBlock) v3_ r4∧Below w.heap.size w w':=by
 have hu120:=Tryd.underlying120
 have hu42:=Tryd.underlying42
 have HR0_1:=Aside0.mk hr0_1
 have HC0_1:=Aside0.mk hc0_1
 clear hr0_1 hc0_1
 have HR0_2:=Aside0.mk hr0_2
 have HC0_2:=Aside0.mk hc0_2
 clear hr0_2 hc0_2
 have HR0_3:=Aside0.mk hr0_3
 have HC0_3:=Aside0.mk hc0_3
 clear hr0_3 hc0_3
 have HB:=Aside0.mk (Below.refl w.heap.size w)
 have H:((laws_toTrmCellS.f k l0_1).bind fun t186=>((laws_toTrmCellS.f k l0_2).bind fun t189=>((laws_toTrmCellS.f k l0_3).bind fun t192=>(some (a0_0,t186,t189,t192)))))=some (r1,r2,r3,r4):=h
 clear h
 replace H:=Option.bind_eq_some_iff.mp H
 obtain ⟨t186,A20,H⟩:=H
 try dsimp only at H
 have A2:=Aside0.mk A20
 clear A20
 replace H:=Option.bind_eq_some_iff.mp H
 obtain ⟨t189,A30,H⟩:=H
 try dsimp only at H
 have A3:=Aside0.mk A30
 clear A30
 replace H:=Option.bind_eq_some_iff.mp H
 obtain ⟨t192,A40,H⟩:=H
 try dsimp only at H
 have A4:=Aside0.mk A40
 clear A40
 simp only [Option.some.injEq,Prod.mk.injEq] at H
 obtain ⟨rfl,rfl,rfl,rfl⟩:=H
 go_enter Tryd.func89,Tryd.ntmps89
 go_wp2_with (first|((with_reducible refine gate_dst (N:=1) rfl ?_);refine box_event ?hg (N:=1) ?hd (cs:=#[.int .i64 a0_0,.slice A0_1 l0_1.length c0_1,.slice A0_2 l0_2.length c0_2,.slice A0_3 l0_3.length c0_3]) (t:=120) ?hr ?_;(case hd=>rfl);(case hg=>rfl);(case hr=>first|(go_simp;done)|(go_simp;rfl));intro gb183 hg w5 hbox hb;have n0_:=Aside0.mk (below_step qz1 hb);have n1_:=Aside0.mk (hbox);have n2_:=Aside0.mk ((by rw [hg];exact (below_size qz1):w.heap.size≤gb183));have n3_:=Aside0.mk ((by rw [hg];exact (below_size qz1):w.heap.size≤gb183));clear HB;have HB:=n0_;have BK183:=n1_;have GW183:=n2_;have GE183:=n3_;clear n0_ n1_ n2_ n3_ hb hbox hg)|((with_reducible refine gate_dst (N:=2) rfl ?_);refine box_event ?hg (N:=2) ?hd (cs:=#[.int .i64 0,.slice none 0 0,.slice none 0 0,.slice none 0 0]) (t:=42) ?hr ?_;(case hd=>rfl);(case hg=>rfl);(case hr=>first|(go_simp;done)|(go_simp;rfl));intro gb184 hg w6 hbox hb;have n0_:=Aside0.mk (blk_below (g:=gb183) (o:=.cells #[.int .i64 a0_0,.slice A0_1 l0_1.length c0_1,.slice A0_2 l0_2.length c0_2,.slice A0_3 l0_3.length c0_3] 120 (0,0)) qz94 hb);have n1_:=Aside0.mk (below_step qz131 hb);have n2_:=Aside0.mk (hbox);have n3_:=Aside0.mk ((by rw [hg];exact (below_size qz131):w.heap.size≤gb184));have n4_:=Aside0.mk ((by rw [hg];exact (below_size qz131):w.heap.size≤gb184));have n5_:=Aside0.mk ((by rw [hg];exact Nat.ne_of_lt (blk_lt (g:=gb183) (o:=.cells #[.int .i64 a0_0,.slice A0_1 l0_1.length c0_1,.slice A0_2 l0_2.length c0_2,.slice A0_3 l0_3.length c0_3] 120 (0,0)) qz94):gb183≠gb184));have n6_:=Aside0.mk ((by rw [hg];exact Nat.ne_of_gt (blk_lt (g:=gb183) (o:=.cells #[.int .i64 a0_0,.slice A0_1 l0_1.length c0_1,.slice A0_2 l0_2.length c0_2,.slice A0_3 l0_3.length c0_3] 120 (0,0)) qz94):gb184≠gb183));clear BK183 HB;have BK183:=n0_;have HB:=n1_;have BK184:=n2_;have GW184:=n3_;have GE184:=n4_;have NB183_184:=n5_;have NB184_183:=n6_;clear n0_ n1_ n2_ n3_ n4_ n5_ n6_ hb hbox hg)|((with_reducible refine gate_dst (N:=3) rfl ?_);refine box_event ?hg (N:=3) ?hd (cs:=#[.int .i64 0,.slice none 0 0,.slice none 0 0,.slice none 0 0]) (t:=42) ?hr ?_;(case hd=>rfl);(case hg=>rfl);(case hr=>first|(go_simp;done)|(go_simp;rfl));intro gb185 hg w7 hbox hb;have n0_:=Aside0.mk (blk_below (g:=gb183) (o:=.cells #[.int .i64 a0_0,.slice A0_1 l0_1.length c0_1,.slice A0_2 l0_2.length c0_2,.slice A0_3 l0_3.length c0_3] 120 (0,0)) qz94 hb);have n1_:=Aside0.mk (blk_below (g:=gb184) (o:=.cells #[.int .i64 0,.slice none 0 0,.slice none 0 0,.slice none 0 0] 42 (0,0)) qz141 hb);have n2_:=Aside0.mk (below_step qz114 hb);have n3_:=Aside0.mk (hbox);have n4_:=Aside0.mk ((by rw [hg];exact (below_size qz114):w.heap.size≤gb185));have n5_:=Aside0.mk ((by rw [hg];exact (below_size qz114):w.heap.size≤gb185));have n6_:=Aside0.mk ((by rw [hg];exact Nat.ne_of_lt (blk_lt (g:=gb183) (o:=.cells #[.int .i64 a0_0,.slice A0_1 l0_1.length c0_1,.slice A0_2 l0_2.length c0_2,.slice A0_3 l0_3.length c0_3] 120 (0,0)) qz94):gb183≠gb185));have n7_:=Aside0.mk ((by rw [hg];exact Nat.ne_of_gt (blk_lt (g:=gb183) (o:=.cells #[.int .i64 a0_0,.slice A0_1 l0_1.length c0_1,.slice A0_2 l0_2.length c0_2,.slice A0_3 l0_3.length c0_3] 120 (0,0)) qz94):gb185≠gb183));have n8_:=Aside0.mk ((by rw [hg];exact Nat.ne_of_lt (blk_lt (g:=gb184) (o:=.cells #[.int .i64 0,.slice none 0 0,.slice none 0 0,.slice none 0 0] 42 (0,0)) qz141):gb184≠gb185));have n9_:=Aside0.mk ((by rw [hg];exact Nat.ne_of_gt (blk_lt (g:=gb184) (o:=.cells #[.int .i64 0,.slice none 0 0,.slice none 0 0,.slice none 0 0] 42 (0,0)) qz141):gb185≠gb184));clear BK183 BK184 HB;have BK183:=n0_;have BK184:=n1_;have HB:=n2_;have BK185:=n3_;have GW185:=n4_;have GE185:=n5_;have NB183_185:=n6_;have NB185_183:=n7_;have NB184_185:=n8_;have NB185_184:=n9_;clear n0_ n1_ n2_ n3_ n4_ n5_ n6_ n7_ n8_ n9_ hb hbox hg;have hnb8:=NB183_184.out;have hnc8:=NB184_183.out;have hnb9:=NB183_185.out;have hnc9:=NB185_183.out;have hcz10_0:w7.cell? ⟨gb183,0,none⟩=some (.int .i64 a0_0):=(blk_cell BK183.out 0).trans rfl;have hcz10_1:w7.cell? ⟨gb183,1,none⟩=some (.slice A0_1 l0_1.length c0_1):=(blk_cell BK183.out 1).trans rfl;have hcz10_2:w7.cell? ⟨gb183,2,none⟩=some (.slice A0_2 l0_2.length c0_2):=(blk_cell BK183.out 2).trans rfl;have hcz10_3:w7.cell? ⟨gb183,3,none⟩=some (.slice A0_3 l0_3.length c0_3):=(blk_cell BK183.out 3).trans rfl;have hfz10_0:=blk_frozen BK183.out 0;have hfz10_1:=blk_frozen BK183.out 1;have hfz10_2:=blk_frozen BK183.out 2;have hfz10_3:=blk_frozen BK183.out 3;have hnb11:=NB185_184.out;have hnc11:=NB184_185.out;have hcz12_0:w7.cell? ⟨gb185,0,none⟩=some (.int .i64 0):=(blk_cell BK185.out 0).trans rfl;have hcz12_1:w7.cell? ⟨gb185,1,none⟩=some (.slice none 0 0):=(blk_cell BK185.out 1).trans rfl;have hcz12_2:w7.cell? ⟨gb185,2,none⟩=some (.slice none 0 0):=(blk_cell BK185.out 2).trans rfl;have hcz12_3:w7.cell? ⟨gb185,3,none⟩=some (.slice none 0 0):=(blk_cell BK185.out 3).trans rfl;have hfz12_0:=blk_frozen BK185.out 0;have hfz12_1:=blk_frozen BK185.out 1;have hfz12_2:=blk_frozen BK185.out 2;have hfz12_3:=blk_frozen BK185.out 3)|((with_reducible refine gate_callee (f:=10) rfl ?_);refine goesL_ (some 9) rfl rfl Tryd.func10 (by kernel_rfl) rfl #[.slice A0_1 l0_1.length c0_1] rfl qz2 ?_;(with_reducible refine (laws_toTrmCellS.calls k _ _ l0_1 t186 _ ?side1 ?side2 A2.out).mono ?_);(case side1=>exact Kd.C_below HR0_1.out qz32);(case side2=>exact HC0_1.out);rintro e w13 ⟨v187,rfl,ho0,hb⟩;refine ⟨_,rfl,?_⟩;have n0_:=Aside0.mk (Kd.R_lower ho0 (below_size qz32));have n1_:=Aside0.mk (blk_below (g:=gb183) (o:=.cells #[.int .i64 a0_0,.slice A0_1 l0_1.length c0_1,.slice A0_2 l0_2.length c0_2,.slice A0_3 l0_3.length c0_3] 120 (0,0)) qz104 hb);have n2_:=Aside0.mk (blk_below (g:=gb184) (o:=.cells #[.int .i64 0,.slice none 0 0,.slice none 0 0,.slice none 0 0] 42 (0,0)) qz103 hb);have n3_:=Aside0.mk (blk_below (g:=gb185) (o:=.cells #[.int .i64 a0_0,.slice none 0 0,.slice none 0 0,.slice none 0 0] 42 (0,0)) (by (with_reducible repeat (first|refine blk_drewN ?_ _|refine blk_drew ?_|refine blk_alloc ?_ _));refine blk_put (cs:=#[.int .i64 0,.slice none 0 0,.slice none 0 0,.slice none 0 0]) ?_ 0 _ rfl;(with_reducible repeat (first|refine blk_drewN ?_ _|refine blk_drew ?_|refine blk_alloc ?_ _));exact BK185.out) hb);have n4_:=Aside0.mk (below_step qz32 hb);clear BK183 BK184 BK185 HB;have HO188:=n0_;have BK183:=n1_;have BK184:=n2_;have BK185:=n3_;have HB:=n4_;clear n0_ n1_ n2_ n3_ n4_;(try clear hb);(try clear hb2);(try clear hk);(try clear hi);(try clear ho0);obtain ⟨Ao14,co14,eo14⟩:=Kd.R_slice HO188.out;subst eo14;have hcz15_0:w13.cell? ⟨gb185,0,none⟩=some (.int .i64 a0_0):=(blk_cell BK185.out 0).trans rfl;have hcz15_1:w13.cell? ⟨gb185,1,none⟩=some (.slice none 0 0):=(blk_cell BK185.out 1).trans rfl;have hcz15_2:w13.cell? ⟨gb185,2,none⟩=some (.slice none 0 0):=(blk_cell BK185.out 2).trans rfl;have hcz15_3:w13.cell? ⟨gb185,3,none⟩=some (.slice none 0 0):=(blk_cell BK185.out 3).trans rfl;have hfz15_0:=blk_frozen BK185.out 0;have hfz15_1:=blk_frozen BK185.out 1;have hfz15_2:=blk_frozen BK185.out 2;have hfz15_3:=blk_frozen BK185.out 3;have hcz16_0:w13.cell? ⟨gb183,0,none⟩=some (.int .i64 a0_0):=(blk_cell BK183.out 0).trans rfl;have hcz16_1:w13.cell? ⟨gb183,1,none⟩=some (.slice A0_1 l0_1.length c0_1):=(blk_cell BK183.out 1).trans rfl;have hcz16_2:w13.cell? ⟨gb183,2,none⟩=some (.slice A0_2 l0_2.length c0_2):=(blk_cell BK183.out 2).trans rfl;have hcz16_3:w13.cell? ⟨gb183,3,none⟩=some (.slice A0_3 l0_3.length c0_3):=(blk_cell BK183.out 3).trans rfl;have hfz16_0:=blk_frozen BK183.out 0;have hfz16_1:=blk_frozen BK183.out 1;have hfz16_2:=blk_frozen BK183.out 2;have hfz16_3:=blk_frozen BK183.out 3)|((with_reducible refine gate_callee (f:=10) rfl ?_);refine goesL_ (some 13) rfl rfl Tryd.func10 (by kernel_rfl) rfl #[.slice A0_2 l0_2.length c0_2] rfl qz2 ?_;(with_reducible refine (laws_toTrmCellS.calls k _ _ l0_2 t189 _ ?side1 ?side2 A3.out).mono ?_);(case side1=>exact Kd.C_below HR0_2.out qz32);(case side2=>exact HC0_2.out);rintro e w17 ⟨v190,rfl,ho0,hb⟩;refine ⟨_,rfl,?_⟩;have n0_:=Aside0.mk (Kd.R_elder' qz138 (Kd.R_base ho0) hb);have n1_:=Aside0.mk (Kd.R_lower (Kd.R_new' ho0 (Kd.R_lt qz138)) (below_size qz32));have n2_:=Aside0.mk (blk_below (g:=gb183) (o:=.cells #[.int .i64 a0_0,.slice A0_1 l0_1.length c0_1,.slice A0_2 l0_2.length c0_2,.slice A0_3 l0_3.length c0_3] 120 (0,0)) qz104 hb);have n3_:=Aside0.mk (blk_below (g:=gb184) (o:=.cells #[.int .i64 0,.slice none 0 0,.slice none 0 0,.slice none 0 0] 42 (0,0)) qz103 hb);have n4_:=Aside0.mk (blk_below (g:=gb185) (o:=.cells #[.int .i64 a0_0,.slice Ao14 t186.length co14,.slice none 0 0,.slice none 0 0] 42 (0,0)) (by (with_reducible repeat (first|refine blk_drewN ?_ _|refine blk_drew ?_|refine blk_alloc ?_ _));refine blk_put (cs:=#[.int .i64 a0_0,.slice none 0 0,.slice none 0 0,.slice none 0 0]) ?_ 1 _ rfl;(with_reducible repeat (first|refine blk_drewN ?_ _|refine blk_drew ?_|refine blk_alloc ?_ _));exact BK185.out) hb);have n5_:=Aside0.mk (below_step qz32 hb);clear HO188 BK183 BK184 BK185 HB;have HO188:=n0_;have HO191:=n1_;have BK183:=n2_;have BK184:=n3_;have BK185:=n4_;have HB:=n5_;clear n0_ n1_ n2_ n3_ n4_ n5_;(try clear hb);(try clear hb2);(try clear hk);(try clear hi);(try clear ho0);obtain ⟨Ao18,co18,eo18⟩:=Kd.R_slice HO191.out;subst eo18;have hcz19_0:w17.cell? ⟨gb185,0,none⟩=some (.int .i64 a0_0):=(blk_cell BK185.out 0).trans rfl;have hcz19_1:w17.cell? ⟨gb185,1,none⟩=some (.slice Ao14 t186.length co14):=(blk_cell BK185.out 1).trans rfl;have hcz19_2:w17.cell? ⟨gb185,2,none⟩=some (.slice none 0 0):=(blk_cell BK185.out 2).trans rfl;have hcz19_3:w17.cell? ⟨gb185,3,none⟩=some (.slice none 0 0):=(blk_cell BK185.out 3).trans rfl;have hfz19_0:=blk_frozen BK185.out 0;have hfz19_1:=blk_frozen BK185.out 1;have hfz19_2:=blk_frozen BK185.out 2;have hfz19_3:=blk_frozen BK185.out 3;have hcz20_0:w17.cell? ⟨gb183,0,none⟩=some (.int .i64 a0_0):=(blk_cell BK183.out 0).trans rfl;have hcz20_1:w17.cell? ⟨gb183,1,none⟩=some (.slice A0_1 l0_1.length c0_1):=(blk_cell BK183.out 1).trans rfl;have hcz20_2:w17.cell? ⟨gb183,2,none⟩=some (.slice A0_2 l0_2.length c0_2):=(blk_cell BK183.out 2).trans rfl;have hcz20_3:w17.cell? ⟨gb183,3,none⟩=some (.slice A0_3 l0_3.length c0_3):=(blk_cell BK183.out 3).trans rfl;have hfz20_0:=blk_frozen BK183.out 0;have hfz20_1:=blk_frozen BK183.out 1;have hfz20_2:=blk_frozen BK183.out 2;have hfz20_3:=blk_frozen BK183.out 3)|((with_reducible refine gate_callee (f:=10) rfl ?_);refine goesL_ (some 17) rfl rfl Tryd.func10 (by kernel_rfl) rfl #[.slice A0_3 l0_3.length c0_3] rfl qz2 ?_;(with_reducible refine (laws_toTrmCellS.calls k _ _ l0_3 t192 _ ?side1 ?side2 A4.out).mono ?_);(case side1=>exact Kd.C_below HR0_3.out qz32);(case side2=>exact HC0_3.out);rintro e w21 ⟨v193,rfl,ho0,hb⟩;refine ⟨_,rfl,?_⟩;have n0_:=Aside0.mk (Kd.R_elder' qz137 (Kd.R_base ho0) hb);have n1_:=Aside0.mk (Kd.R_elder' qz136 (Kd.R_base ho0) hb);have n2_:=Aside0.mk (Kd.R_lower (Kd.R_new' (Kd.R_new' ho0 (Kd.R_lt qz137)) (Kd.R_lt qz136)) (below_size qz32));have n3_:=Aside0.mk (blk_below (g:=gb183) (o:=.cells #[.int .i64 a0_0,.slice A0_1 l0_1.length c0_1,.slice A0_2 l0_2.length c0_2,.slice A0_3 l0_3.length c0_3] 120 (0,0)) qz104 hb);have n4_:=Aside0.mk (blk_below (g:=gb184) (o:=.cells #[.int .i64 0,.slice none 0 0,.slice none 0 0,.slice none 0 0] 42 (0,0)) qz103 hb);have n5_:=Aside0.mk (blk_below (g:=gb185) (o:=.cells #[.int .i64 a0_0,.slice Ao14 t186.length co14,.slice Ao18 t189.length co18,.slice none 0 0] 42 (0,0)) (by (with_reducible repeat (first|refine blk_drewN ?_ _|refine blk_drew ?_|refine blk_alloc ?_ _));refine blk_put (cs:=#[.int .i64 a0_0,.slice Ao14 t186.length co14,.slice none 0 0,.slice none 0 0]) ?_ 2 _ rfl;(with_reducible repeat (first|refine blk_drewN ?_ _|refine blk_drew ?_|refine blk_alloc ?_ _));exact BK185.out) hb);have n6_:=Aside0.mk (below_step qz32 hb);clear HO188 HO191 BK183 BK184 BK185 HB;have HO188:=n0_;have HO191:=n1_;have HO194:=n2_;have BK183:=n3_;have BK184:=n4_;have BK185:=n5_;have HB:=n6_;clear n0_ n1_ n2_ n3_ n4_ n5_ n6_;(try clear hb);(try clear hb2);(try clear hk);(try clear hi);(try clear ho0);obtain ⟨Ao22,co22,eo22⟩:=Kd.R_slice HO194.out;subst eo22;have hcz23_0:w21.cell? ⟨gb185,0,none⟩=some (.int .i64 a0_0):=(blk_cell BK185.out 0).trans rfl;have hcz23_1:w21.cell? ⟨gb185,1,none⟩=some (.slice Ao14 t186.length co14):=(blk_cell BK185.out 1).trans rfl;have hcz23_2:w21.cell? ⟨gb185,2,none⟩=some (.slice Ao18 t189.length co18):=(blk_cell BK185.out 2).trans rfl;have hcz23_3:w21.cell? ⟨gb185,3,none⟩=some (.slice none 0 0):=(blk_cell BK185.out 3).trans rfl;have hfz23_0:=blk_frozen BK185.out 0;have hfz23_1:=blk_frozen BK185.out 1;have hfz23_2:=blk_frozen BK185.out 2;have hfz23_3:=blk_frozen BK185.out 3;have hcz24_0:w21.cell? ⟨gb184,0,none⟩=some (.int .i64 0):=(blk_cell BK184.out 0).trans rfl;have hcz24_1:w21.cell? ⟨gb184,1,none⟩=some (.slice none 0 0):=(blk_cell BK184.out 1).trans rfl;have hcz24_2:w21.cell? ⟨gb184,2,none⟩=some (.slice none 0 0):=(blk_cell BK184.out 2).trans rfl;have hcz24_3:w21.cell? ⟨gb184,3,none⟩=some (.slice none 0 0):=(blk_cell BK184.out 3).trans rfl;have hfz24_0:=blk_frozen BK184.out 0;have hfz24_1:=blk_frozen BK184.out 1;have hfz24_2:=blk_frozen BK184.out 2;have hfz24_3:=blk_frozen BK184.out 3))
 refine bodyPost_ret (results_cell_row rfl _ _ gb184 42 #[.int .i64 a0_0,.slice Ao14 t186.length co14,.slice Ao18 t189.length co18,.slice Ao22 t192.length co22] (0,0) _ rfl (by (with_reducible repeat (first|refine blk_drewN ?_ _|refine blk_drew ?_|refine blk_alloc ?_ _));refine blk_put (cs:=#[.int .i64 a0_0,.slice Ao14 t186.length co14,.slice Ao18 t189.length co18,.slice none 0 0]) ?_ 3 _ rfl;(with_reducible repeat (first|refine blk_drewN ?_ _|refine blk_drew ?_|refine blk_alloc ?_ _));refine blk_put (cs:=#[.int .i64 a0_0,.slice Ao14 t186.length co14,.slice none 0 0,.slice none 0 0]) ?_ 2 _ rfl;(with_reducible repeat (first|refine blk_drewN ?_ _|refine blk_drew ?_|refine blk_alloc ?_ _));refine blk_put (cs:=#[.int .i64 a0_0,.slice none 0 0,.slice none 0 0,.slice none 0 0]) ?_ 1 _ rfl;(with_reducible repeat (first|refine blk_drewN ?_ _|refine blk_drew ?_|refine blk_alloc ?_ _));refine blk_put (cs:=#[.int .i64 0,.slice none 0 0,.slice none 0 0,.slice none 0 0]) ?_ 0 _ rfl;(with_reducible repeat (first|refine blk_drewN ?_ _|refine blk_drew ?_|refine blk_alloc ?_ _));refine blk_far ?_ NB184_185.out _;(with_reducible repeat (first|refine blk_drewN ?_ _|refine blk_drew ?_|refine blk_alloc ?_ _));exact BK184.out) Tryd.underlying42 rfl (by kernel_rfl)) rfl ?_
 exact ⟨_,_,_,qz3,by (with_reducible repeat (first|apply Kd.R_alloc|apply Kd.R_drewN|apply Kd.R_drew));exact Kd.R_mono (Kd.R_far (p:=⟨gb184,3,none⟩) (Kd.R_far (p:=⟨gb184,2,none⟩) (Kd.R_far (p:=⟨gb184,1,none⟩) (Kd.R_far (p:=⟨gb184,0,none⟩) (Kd.R_far (p:=⟨gb185,3,none⟩) (Kd.R_types (Kd.R_types HO188.out BK185.out (by decide)) BK184.out (by decide)) (fun _ hk=>hk.1.2) (.slice Ao22 t192.length co22)) (fun _ hk=>hk.2) (.int .i64 a0_0)) (fun _ hk=>hk.2) (.slice Ao14 t186.length co14)) (fun _ hk=>hk.2) (.slice Ao18 t189.length co18)) (fun _ hk=>hk.2) (.slice Ao22 t192.length co22)) (fun _ hk=>⟨hk.1.1.1.2,hk.1.1.2⟩),by (with_reducible repeat (first|apply Kd.R_alloc|apply Kd.R_drewN|apply Kd.R_drew));exact Kd.R_mono (Kd.R_far (p:=⟨gb184,3,none⟩) (Kd.R_far (p:=⟨gb184,2,none⟩) (Kd.R_far (p:=⟨gb184,1,none⟩) (Kd.R_far (p:=⟨gb184,0,none⟩) (Kd.R_far (p:=⟨gb185,3,none⟩) (Kd.R_types (Kd.R_types HO191.out BK185.out (by decide)) BK184.out (by decide)) (fun _ hk=>hk.1.2) (.slice Ao22 t192.length co22)) (fun _ hk=>hk.2) (.int .i64 a0_0)) (fun _ hk=>hk.2) (.slice Ao14 t186.length co14)) (fun _ hk=>hk.2) (.slice Ao18 t189.length co18)) (fun _ hk=>hk.2) (.slice Ao22 t192.length co22)) (fun _ hk=>⟨hk.1.1.1.2,hk.1.1.2⟩),by (with_reducible repeat (first|apply Kd.R_alloc|apply Kd.R_drewN|apply Kd.R_drew));exact Kd.R_mono (Kd.R_far (p:=⟨gb184,3,none⟩) (Kd.R_far (p:=⟨gb184,2,none⟩) (Kd.R_far (p:=⟨gb184,1,none⟩) (Kd.R_far (p:=⟨gb184,0,none⟩) (Kd.R_far (p:=⟨gb185,3,none⟩) (Kd.R_types (Kd.R_types HO194.out BK185.out (by decide)) BK184.out (by decide)) (fun _ hk=>hk.1.2) (.slice Ao22 t192.length co22)) (fun _ hk=>hk.2) (.int .i64 a0_0)) (fun _ hk=>hk.2) (.slice Ao14 t186.length co14)) (fun _ hk=>hk.2) (.slice Ao18 t189.length co18)) (fun _ hk=>hk.2) (.slice Ao22 t192.length co22)) (fun _ hk=>⟨hk.1.1.1.2,hk.1.1.2⟩),qz32⟩

/-! ### laws_toPrgGoalS: function 77 -/
def laws_toPrgGoalS.l0:Nat→List (S120)→List (S42)→Int→Option ((List (S42)))
 | 0,_,_,_=>none
 | k+1,x0,x3,x4=>if x4<(x0.length:Int) then (if 0≤x4 then ((laws_toPrgGoal.f k ((rd_T120 x0 x4).f0) ((rd_T120 x0 x4).f1) ((rd_T120 x0 x4).f2) ((rd_T120 x0 x4).f3)).bind fun bt199=>(if x4<(x3.length:Int) then (laws_toPrgGoalS.l0 k x0 (x3.set (x4:Int).toNat (⟨bt199.1,bt199.2.1,bt199.2.2.1,bt199.2.2.2⟩:S42)) (wrap64 (x4+1))) else (none))) else (none)) else (some x3)
def laws_toPrgGoalS.f (k:Nat) (l0:List (S120)):Option ((List (S42))):=if 0≤(l0.length:Int) then (if ((l0.length:Int):Int).toNat≤3518437208883 then (laws_toPrgGoalS.l0 k l0 (List.replicate ((l0.length:Int):Int).toNat z42) 0) else (none)) else (none)
set_option maxHeartbeats 8000000 in
set_option maxRecDepth 100000 in
theorem laws_toPrgGoalS.calls (k:Nat) (A0:Option Addr) (c0:Nat) (l0:List (S120)) (r:List (S42)) (w:World) (hr0:Kd.C k120 w A0 l0.length l0) (hc0:l0.length≤c0) (h:laws_toPrgGoalS.f k l0=some r) :
  Calls Tryd.prog 77 #[.slice A0 l0.length c0] w fun e w'=>∃ v0_:Value,e = .returned (v0_)∧Kd.S k42 42 w' w.heap.size (fun _=>True) v0_ r∧Below w.heap.size w w':=by
 have hu120:=Tryd.underlying120
 have hu42:=Tryd.underlying42
 have HR0:=Aside0.mk hr0
 have HC0:=Aside0.mk hc0
 clear hr0 hc0
 have HB:=Aside0.mk (Below.refl w.heap.size w)
 have H:(if 0≤(l0.length:Int) then (if ((l0.length:Int):Int).toNat≤3518437208883 then (laws_toPrgGoalS.l0 k l0 (List.replicate ((l0.length:Int):Int).toNat z42) 0) else (none)) else (none))=some r:=h
 clear h
 by_cases c2:0≤(l0.length:Int)
 ·rw [if_pos c2] at H
  have c2b0:=eq_true c2
  have c2b1:decide (0≤(l0.length:Int))=true:=decide_eq_true c2
  clear c2
  by_cases c3:((l0.length:Int):Int).toNat≤3518437208883
  ·rw [if_pos c3] at H
   have c3b0:=eq_true c3
   have c3b1:decide (((l0.length:Int):Int).toNat≤3518437208883)=true:=decide_eq_true c3
   clear c3
   obtain ⟨y195,hy195⟩:∃ y_:List (S42),y_=(List.replicate ((l0.length:Int):Int).toNat z42):=⟨_,rfl⟩
   replace H:(laws_toPrgGoalS.l0 k l0 y195 0)=some r:=by first|(rw [hy195];exact H)|exact H
   have Ny195:=Aside0.mk hy195
   clear hy195
   have H':=Aside0.mk H
   clear H
   go_enter Tryd.func77,Tryd.ntmps77
   go_wp2_with (first|((with_reducible refine gate_dst (N:=7) rfl ?_);refine Kd.S_make k42 _ 42 rfl (N:=7) rfl 84 _ _ rfl (l0.length:Int) rfl rfl Tryd.underlying84 (.agg #[(.int .i64 0),(.slice none 0 0),(.slice none 0 0),(.slice none 0 0)]) 80 info42 rfl (by decide) (by omega) z42 (ok:=fun _=>True) (okp:=fun _=>True) (k42_mkM _ _ _ z42 (Kd.R_nil _ _ _ _ _) (Kd.R_nil _ _ _ _ _) (Kd.R_nil _ _ _ _ _)) (fun _ hk=>hk) trivial (of_decide_eq_true qz7) (Nat.le_trans (Nat.mul_le_mul_right _ (of_decide_eq_true qz7:(l0.length:Int).toNat≤3518437208883)) (by omega)) (Below.refl _ _) (Nat.le_refl _) ?_;intro v196 w4 ho5 hb hg_ hnew_;clear hg_ hnew_;(first|rw [← Ny195.out] at ho5|(simp only [Int.reduceToNat] at ho5;rw [← Ny195.out] at ho5));have n0_:=Aside0.mk (Kd.S_lower ho5 (below_size qz1));have n1_:=Aside0.mk (below_step qz1 hb);clear HB;have HO197:=n0_;have HB:=n1_;clear n0_ n1_ hb ho5))
   go_loopg [4] k (fun kq v4 w'=>∃ (x3_1:List (S42)) (x4_1:Int),v4 = .int .i64 x4_1∧Aside0 (laws_toPrgGoalS.l0 kq l0 x3_1 x4_1=some r)∧Aside0 (kq≤k)∧Aside0 (Kd.S k42 42 w' w.heap.size (fun _=>True) v196 x3_1)∧Aside0 (Below w.heap.size w w'))
   case atStart=>exact ⟨(y195),(0),qz12,H',⟨Nat.le_refl _⟩,⟨by (with_reducible repeat (first|apply Kd.S_alloc|apply Kd.S_drewN|apply Kd.S_drew));exact HO197.out⟩,⟨qz4⟩⟩
   case round=>
    clear H'
    try clear c2
    try clear c2b0
    try clear c2b1
    try clear p2
    try clear c3
    try clear c3b0
    try clear c3b1
    obtain ⟨x3_1,x4_1,rfl,HA,HK1,HO_3,HB⟩:=hrel
    cases gk with
    | zero=>exact absurd HA.out (by simp [laws_toPrgGoalS.l0])
    | succ k1=>
     have H:=HA.out
     clear HA
     simp only [laws_toPrgGoalS.l0] at H
     by_cases c6:x4_1<(l0.length:Int)
     ·rw [if_pos c6] at H
      have c6b0:decide (x4_1<(l0.length:Int))=true:=decide_eq_true c6
      clear c6
      by_cases c7:0≤x4_1
      ·rw [if_pos c7] at H
       have c7b0:decide (0≤x4_1)=true:=decide_eq_true c7
       clear c7
       replace H:=Option.bind_eq_some_iff.mp H
       obtain ⟨⟨t199,t200,t203,t206⟩,A80,H⟩:=H
       try dsimp only at H
       have A8:=Aside0.mk A80
       clear A80
       by_cases c9:x4_1<(x3_1.length:Int)
       ·rw [if_pos c9] at H
        have c9b0:decide (x4_1<(x3_1.length:Int))=true:=decide_eq_true c9
        clear c9
        obtain ⟨y209,hy209⟩:∃ y_:List (S42),y_=(x3_1.set (x4_1:Int).toNat (⟨t199,t200,t203,t206⟩:S42)):=⟨_,rfl⟩
        replace H:(laws_toPrgGoalS.l0 k1 l0 y209 (wrap64 (x4_1+1)))=some r:=by first|(rw [hy209];exact H)|exact H
        have Ny209:=Aside0.mk hy209
        clear hy209
        have H':=Aside0.mk H
        clear H
        have p198:0≤(x4_1:Int):=of_decide_eq_true qz7
        have q198:x4_1<(l0.length:Int):=of_decide_eq_true qz7
        obtain ⟨ad198,A198_1,c198_1,A198_2,c198_2,A198_3,c198_3,e198,hx198_0,hx198_1,hx198_2,hx198_3,hl198_1,hi198_1,hl198_2,hi198_2,hl198_3,hi198_3⟩:=at_T120 HR0.out x4_1 p198 q198
        cases e198
        replace hx198_0:=(HB.out.cell (World.block_lt_of_cell? w _ hx198_0)).trans hx198_0
        replace hx198_1:=(HB.out.cell (World.block_lt_of_cell? w _ hx198_1)).trans hx198_1
        replace hx198_2:=(HB.out.cell (World.block_lt_of_cell? w _ hx198_2)).trans hx198_2
        replace hx198_3:=(HB.out.cell (World.block_lt_of_cell? w _ hx198_3)).trans hx198_3
        have HR198_1:=Aside0.mk hi198_1
        have HC198_1:=Aside0.mk hl198_1
        clear hi198_1 hl198_1
        have HR198_2:=Aside0.mk hi198_2
        have HC198_2:=Aside0.mk hl198_2
        clear hi198_2 hl198_2
        have HR198_3:=Aside0.mk hi198_3
        have HC198_3:=Aside0.mk hl198_3
        clear hi198_3 hl198_3
        replace p198:=eq_true p198
        replace q198:=eq_true q198
        go_wp2_with (first|((with_reducible refine gate_callee (f:=89) rfl ?_);refine goesL_ (some 20) rfl rfl Tryd.func89 (by kernel_rfl) rfl #[.agg #[.int .i64 ((rd_T120 l0 x4_1).f0),.slice A198_1 ((rd_T120 l0 x4_1).f1).length c198_1,.slice A198_2 ((rd_T120 l0 x4_1).f2).length c198_2,.slice A198_3 ((rd_T120 l0 x4_1).f3).length c198_3]] rfl qz2 ?_;(with_reducible refine (laws_toPrgGoal.calls k1 ((rd_T120 l0 x4_1).f0) _ _ ((rd_T120 l0 x4_1).f1) _ _ ((rd_T120 l0 x4_1).f2) _ _ ((rd_T120 l0 x4_1).f3) t199 t200 t203 t206 _ ?side1 ?side2 ?side3 ?side4 ?side5 ?side6 A8.out).mono ?_);(case side1=>repeat (first|exact (Kd.C_below HR198_1.out HB.out)|(with_reducible refine Kd.C_alloc ?_ _)|(with_reducible refine Kd.C_drewN ?_ _)|(with_reducible refine Kd.C_drew ?_)));(case side2=>exact HC198_1.out);(case side3=>repeat (first|exact (Kd.C_below HR198_2.out HB.out)|(with_reducible refine Kd.C_alloc ?_ _)|(with_reducible refine Kd.C_drewN ?_ _)|(with_reducible refine Kd.C_drew ?_)));(case side4=>exact HC198_2.out);(case side5=>repeat (first|exact (Kd.C_below HR198_3.out HB.out)|(with_reducible refine Kd.C_alloc ?_ _)|(with_reducible refine Kd.C_drewN ?_ _)|(with_reducible refine Kd.C_drew ?_)));(case side6=>exact HC198_3.out);rintro e w11 ⟨v201,v204,v207,rfl,ho0,ho1,ho2,hb⟩;refine ⟨_,rfl,?_⟩;have n0_:=Aside0.mk (Kd.S_mono (Kd.S_told (Kd.S_told (Kd.S_told (Kd.S_old qz144 hb) (Kd.R_base ho0)) (Kd.R_base ho1)) (Kd.R_base ho2)) (fun _ h_=>h_.1));have n1_:=Aside0.mk (Kd.R_lower ho0 (below_size qz1));have n2_:=Aside0.mk (Kd.R_lower ho1 (below_size qz1));have n3_:=Aside0.mk (Kd.R_lower ho2 (below_size qz1));have n4_:=Aside0.mk (below_step qz1 hb);clear HO_3 HB;have HO_3:=n0_;have HO202:=n1_;have HO205:=n2_;have HO208:=n3_;have HB:=n4_;clear n0_ n1_ n2_ n3_ n4_;(try clear hb);(try clear hb2);(try clear hk);(try clear hi);(try clear ho0);(try clear ho1);(try clear ho2);have p10:0≤(x4_1:Int):=of_decide_eq_true qz7;have q10:(x4_1:Int)<((x3_1.length:Int):Int):=of_decide_eq_true qz7;obtain ⟨go10,co10,eo10,gb10,gl10,cl10,HG10⟩:=Kd.S_form HO_3.out (by omega);(first|cases eo10|(injection eo10 with ea_ en_ ec_;(first|subst ea_|(injection ea_ with ea_;subst ea_));subst ec_;clear en_));have GB10:=Aside0.mk gb10;have GG10:=Aside0.mk HG10;clear gb10 gl10 HG10;obtain ⟨_,ce10,hcl10,hM10,hcc10,hfr10,_,_⟩:=Kd.S_elem HO_3.out z42 (x4_1:Int) p10 q10;obtain ⟨ve10_1,ve10_2,ve10_3,rfl,ge10_1,ge10_2,ge10_3⟩:=k42_openM hM10;have hx10_0:w11.cell? ⟨go10,(x4_1:Int).toNat * 4,none⟩=some (.int .i64 ((rd_T42 x3_1 x4_1).f0)):=hcc10 0 _ rfl;have hx10_1:w11.cell? ⟨go10,(x4_1:Int).toNat * 4+1,none⟩=some (ve10_1):=hcc10 1 _ rfl;have hx10_2:w11.cell? ⟨go10,(x4_1:Int).toNat * 4+2,none⟩=some (ve10_2):=hcc10 2 _ rfl;have hx10_3:w11.cell? ⟨go10,(x4_1:Int).toNat * 4+3,none⟩=some (ve10_3):=hcc10 3 _ rfl;have hf10_0:w11.frozen? ⟨go10,(x4_1:Int).toNat * 4,none⟩=false:=hfr10 0;have hf10_1:w11.frozen? ⟨go10,(x4_1:Int).toNat * 4+1,none⟩=false:=hfr10 1;have hf10_2:w11.frozen? ⟨go10,(x4_1:Int).toNat * 4+2,none⟩=false:=hfr10 2;have hf10_3:w11.frozen? ⟨go10,(x4_1:Int).toNat * 4+3,none⟩=false:=hfr10 3;(try clear hcl10);(try clear hcc10);(try clear hfr10);(try clear hM10);replace p10:=eq_true p10;replace q10:=eq_true q10;have n_:=Aside0.mk (Kd.S_mono (ok':=(fun k_=>some k_≠(v201:Value).ownBlock∧some k_≠(v204:Value).ownBlock∧some k_≠(v207:Value).ownBlock)) HO_3.out (fun k_ hk=>⟨hk.1.1.2,⟨hk.1.2,hk.2⟩⟩));clear HO_3;have HO_3:=n_;clear n_;have HX12:=Aside0.mk (show Kd.S k42 42 w11 w.heap.size (fun k_=>((fun _=>True)) k_∧¬ ((fun k_=>some k_=(v201:Value).ownBlock∨some k_=(v204:Value).ownBlock∨some k_=(v207:Value).ownBlock)) k_) (.slice (some ⟨go10,0,none⟩) x3_1.length co10) x3_1 from (by (with_reducible repeat (first|apply Kd.S_alloc|apply Kd.S_drewN|apply Kd.S_drew));exact Kd.S_mono HO_3.out (fun k_ hk=>⟨trivial,fun e_=>e_.elim (fun h_=>hk.1 h_) (fun h_=>h_.elim (fun h_=>hk.2.1 h_) (fun h_=>hk.2.2 h_))⟩)));obtain ⟨oki12,ce12,hcl12,hM12,hcc12,hfr12,hoki12,hH12⟩:=Kd.S_elem HX12.out z42 (x4_1:Int) (of_decide_eq_true qz7) (by have h_:(x4_1:Int)<((x3_1.length:Int):Int):=of_decide_eq_true qz7;first|exact h_|(have e_:=(Kd.S_reads' HO_3.out).1;omega)|simpa using h_);obtain ⟨ve12_1,ve12_2,ve12_3,rfl,ge12_1,ge12_2,ge12_3⟩:=k42_openM hM12;have HP12:=Kd.S_seg hH12 (of_decide_eq_true qz7) (by have h_:(x4_1:Int)<((x3_1.length:Int):Int):=of_decide_eq_true qz7;first|exact h_|(have e_:=(Kd.S_reads' HO_3.out).1;omega)|simpa using h_) (seg:=[.int .i64 t199,v201,v204,v207]) (j:=0) (show 4≤4 from by decide) (x':=(⟨t199,t200,t203,t206⟩:S42)) (k42_mkM _ _ _ (⟨t199,t200,t203,t206⟩:S42) (Kd.R_mono (Kd.R_tight rfl (Kd.R_mono (ok':=fun k_=>((fun _=>True)) k_∧k_≠go10) (Kd.R_apart' (HO202.out) (Kd.S_typed HO_3.out) (by decide)) (fun k_ hk=>⟨trivial,fun e_=>(hk.2) (by rw [e_];rfl)⟩))) (fun _ h_=>Or.inr (Or.inl h_))) (Kd.R_mono (Kd.R_tight rfl (Kd.R_mono (ok':=fun k_=>((fun _=>True)) k_∧k_≠go10) (Kd.R_apart' (HO205.out) (Kd.S_typed HO_3.out) (by decide)) (fun k_ hk=>⟨trivial,fun e_=>(hk.2) (by rw [e_];rfl)⟩))) (fun _ h_=>Or.inr (Or.inr (Or.inl h_)))) (Kd.R_mono (Kd.R_tight rfl (Kd.R_mono (ok':=fun k_=>((fun _=>True)) k_∧k_≠go10) (Kd.R_apart' (HO208.out) (Kd.S_typed HO_3.out) (by decide)) (fun k_ hk=>⟨trivial,fun e_=>(hk.2) (by rw [e_];rfl)⟩))) (fun _ h_=>Or.inr (Or.inr (Or.inr (h_)))))) (fun _ hk=>hk) (fun k_ hk_=>hk_.elim (fun h_=>((Kd.R_mono (ok':=fun k_=>((fun _=>True)) k_∧k_≠go10) (Kd.R_apart' (HO202.out) (Kd.S_typed HO_3.out) (by decide)) (fun k_ hk=>⟨trivial,fun e_=>(hk.2) (by rw [e_];rfl)⟩))).1 k_ h_.symm) (fun h_=>h_.elim (fun h_=>((Kd.R_mono (ok':=fun k_=>((fun _=>True)) k_∧k_≠go10) (Kd.R_apart' (HO205.out) (Kd.S_typed HO_3.out) (by decide)) (fun k_ hk=>⟨trivial,fun e_=>(hk.2) (by rw [e_];rfl)⟩))).1 k_ h_.symm) (fun h_=>((Kd.R_mono (ok':=fun k_=>((fun _=>True)) k_∧k_≠go10) (Kd.R_apart' (HO208.out) (Kd.S_typed HO_3.out) (by decide)) (fun k_ hk=>⟨trivial,fun e_=>(hk.2) (by rw [e_];rfl)⟩))).1 k_ h_.symm)));have hx12_0:=hcc12 0 _ rfl;(try simp only [show (k42).sz=4 from rfl,Nat.mul_one,Nat.add_zero] at hx12_0);have hf12_0:=hfr12 0;(try simp only [show (k42).sz=4 from rfl,Nat.mul_one,Nat.add_zero] at hf12_0);have hx12_1:=hcc12 1 _ rfl;(try simp only [show (k42).sz=4 from rfl,Nat.mul_one,Nat.add_zero] at hx12_1);have hf12_1:=hfr12 1;(try simp only [show (k42).sz=4 from rfl,Nat.mul_one,Nat.add_zero] at hf12_1);have hx12_2:=hcc12 2 _ rfl;(try simp only [show (k42).sz=4 from rfl,Nat.mul_one,Nat.add_zero] at hx12_2);have hf12_2:=hfr12 2;(try simp only [show (k42).sz=4 from rfl,Nat.mul_one,Nat.add_zero] at hf12_2);have hx12_3:=hcc12 3 _ rfl;(try simp only [show (k42).sz=4 from rfl,Nat.mul_one,Nat.add_zero] at hx12_3);have hf12_3:=hfr12 3;(try simp only [show (k42).sz=4 from rfl,Nat.mul_one,Nat.add_zero] at hf12_3);clear hcl12 hcc12 hfr12 hM12 hoki12 hH12)|((with_reducible refine gate_store (t:=42) (p:=21) rfl ?_);refine store_event (t:=42) (p:=21) (v:=?vo_w13) (w1:=((((w11.setCell ⟨go10,(x4_1:Int).toNat * 4,none⟩ (.int .i64 t199)).setCell ⟨go10,(x4_1:Int).toNat * 4+1,none⟩ (v201)).setCell ⟨go10,(x4_1:Int).toNat * 4+2,none⟩ (v204)).setCell ⟨go10,(x4_1:Int).toNat * 4+3,none⟩ (v207))) ?hg ?ho ?hn ?hr ?_;(case ho=>rfl);(case hg=>rfl);(case hn=>rfl);(case hr=>first|(go_simp;done)|(go_simp;rfl)|(obtain ⟨_,_,ev0_⟩:=Kd.R_slice HO202.out;obtain ⟨_,_,ev1_⟩:=Kd.R_slice HO205.out;obtain ⟨_,_,ev2_⟩:=Kd.R_slice HO208.out;rw [ev0_,ev1_,ev2_];first|(go_simp;done)|(go_simp;rfl)));intro w13 hw;have hg:w11.grownBy w13 (some go10):=(by rw [hw];exact HP12.2);have hp_:Kd.S k42 42 w13 w.heap.size (fun _=>True) (.slice (some ⟨go10,0,none⟩) x3_1.length co10) y209:=(by rw [hw,Ny209.out];exact HP12.1);clear HP12;have n0_:=Aside0.mk (hp_);have n1_:=Aside0.mk ((by rw [hw];exact below_set (below_set (below_set (below_set (HB.out) GB10.out) GB10.out) GB10.out) GB10.out:Below w.heap.size w w13));clear HO_3 HB HO202 HO205 HO208;have HO_3:=n0_;have HB:=n1_;clear n0_ n1_ hg hw hp_))
        go_roundg k1
        case measure=>have:=HK1.out;omega
        case rel=>exact ⟨(y209),(wrap64 (x4_1+1)),qz12,H',⟨by have:=HK1.out;omega⟩,⟨qz144⟩,⟨qz4⟩⟩
       ·rw [if_neg c9] at H
        exact absurd H (by simp)
      ·rw [if_neg c7] at H
       exact absurd H (by simp)
     ·rw [if_neg c6] at H
      have c6b0:decide (x4_1<(l0.length:Int))=false:=decide_eq_false c6
      clear c6
      obtain rfl:=Option.some.inj H
      go_wp2
      go_ret
      exact ⟨_,qz3,qz144,qz4⟩
  ·rw [if_neg c3] at H
   exact absurd H (by simp)
 ·rw [if_neg c2] at H
  exact absurd H (by simp)

/-! ### laws_toPrgClause: function 55 -/
def laws_toPrgClause.f (k:Nat) (l0_0:List (S61)) (l0_1:List (S120)):Option ((List (S47)) × (List (S42))):=(laws_toTrmCellS.f k l0_0).bind fun t213=>((laws_toPrgGoalS.f k l0_1).bind fun t216=>(some (t213,t216)))
set_option maxHeartbeats 8000000 in
set_option maxRecDepth 100000 in
theorem laws_toPrgClause.calls (k:Nat) (A0_0:Option Addr) (c0_0:Nat) (l0_0:List (S61)) (A0_1:Option Addr) (c0_1:Nat) (l0_1:List (S120)) (r1:List (S47)) (r2:List (S42)) (w:World) (hr0_0:Kd.C k61 w A0_0 l0_0.length l0_0) (hc0_0:l0_0.length≤c0_0) (hr0_1:Kd.C k120 w A0_1 l0_1.length l0_1) (hc0_1:l0_1.length≤c0_1) (h:laws_toPrgClause.f k l0_0 l0_1=some (r1,r2)) :
  Calls Tryd.prog 55 #[.agg #[.slice A0_0 l0_0.length c0_0,.slice A0_1 l0_1.length c0_1]] w fun e w'=>∃ v0_ v1_:Value,e = .returned (.agg #[v0_,v1_])∧Kd.R k47 47 w' w.heap.size (fun _=>True) v0_ r1∧Kd.S k42 42 w' w.heap.size (fun k_=>some k_≠(v0_:Value).ownBlock) v1_ r2∧Below w.heap.size w w':=by
 have hu79:=Tryd.underlying79
 have hu86:=Tryd.underlying86
 have HR0_0:=Aside0.mk hr0_0
 have HC0_0:=Aside0.mk hc0_0
 clear hr0_0 hc0_0
 have HR0_1:=Aside0.mk hr0_1
 have HC0_1:=Aside0.mk hc0_1
 clear hr0_1 hc0_1
 have HB:=Aside0.mk (Below.refl w.heap.size w)
 have H:((laws_toTrmCellS.f k l0_0).bind fun t213=>((laws_toPrgGoalS.f k l0_1).bind fun t216=>(some (t213,t216))))=some (r1,r2):=h
 clear h
 replace H:=Option.bind_eq_some_iff.mp H
 obtain ⟨t213,A20,H⟩:=H
 try dsimp only at H
 have A2:=Aside0.mk A20
 clear A20
 replace H:=Option.bind_eq_some_iff.mp H
 obtain ⟨t216,A30,H⟩:=H
 try dsimp only at H
 have A3:=Aside0.mk A30
 clear A30
 simp only [Option.some.injEq,Prod.mk.injEq] at H
 obtain ⟨rfl,rfl⟩:=H
 go_enter Tryd.func55,Tryd.ntmps55
 go_wp2_with (first|((with_reducible refine gate_dst (N:=1) rfl ?_);refine box_event ?hg (N:=1) ?hd (cs:=#[.slice A0_0 l0_0.length c0_0,.slice A0_1 l0_1.length c0_1]) (t:=79) ?hr ?_;(case hd=>rfl);(case hg=>rfl);(case hr=>first|(go_simp;done)|(go_simp;rfl));intro gb210 hg w4 hbox hb;have n0_:=Aside0.mk (below_step qz1 hb);have n1_:=Aside0.mk (hbox);have n2_:=Aside0.mk ((by rw [hg];exact (below_size qz1):w.heap.size≤gb210));have n3_:=Aside0.mk ((by rw [hg];exact (below_size qz1):w.heap.size≤gb210));clear HB;have HB:=n0_;have BK210:=n1_;have GW210:=n2_;have GE210:=n3_;clear n0_ n1_ n2_ n3_ hb hbox hg)|((with_reducible refine gate_dst (N:=2) rfl ?_);refine box_event ?hg (N:=2) ?hd (cs:=#[.slice none 0 0,.slice none 0 0]) (t:=86) ?hr ?_;(case hd=>rfl);(case hg=>rfl);(case hr=>first|(go_simp;done)|(go_simp;rfl));intro gb211 hg w5 hbox hb;have n0_:=Aside0.mk (blk_below (g:=gb210) (o:=.cells #[.slice A0_0 l0_0.length c0_0,.slice A0_1 l0_1.length c0_1] 79 (0,0)) qz85 hb);have n1_:=Aside0.mk (below_step qz130 hb);have n2_:=Aside0.mk (hbox);have n3_:=Aside0.mk ((by rw [hg];exact (below_size qz130):w.heap.size≤gb211));have n4_:=Aside0.mk ((by rw [hg];exact (below_size qz130):w.heap.size≤gb211));have n5_:=Aside0.mk ((by rw [hg];exact Nat.ne_of_lt (blk_lt (g:=gb210) (o:=.cells #[.slice A0_0 l0_0.length c0_0,.slice A0_1 l0_1.length c0_1] 79 (0,0)) qz85):gb210≠gb211));have n6_:=Aside0.mk ((by rw [hg];exact Nat.ne_of_gt (blk_lt (g:=gb210) (o:=.cells #[.slice A0_0 l0_0.length c0_0,.slice A0_1 l0_1.length c0_1] 79 (0,0)) qz85):gb211≠gb210));clear BK210 HB;have BK210:=n0_;have HB:=n1_;have BK211:=n2_;have GW211:=n3_;have GE211:=n4_;have NB210_211:=n5_;have NB211_210:=n6_;clear n0_ n1_ n2_ n3_ n4_ n5_ n6_ hb hbox hg)|((with_reducible refine gate_dst (N:=3) rfl ?_);refine box_event ?hg (N:=3) ?hd (cs:=#[.slice none 0 0,.slice none 0 0]) (t:=86) ?hr ?_;(case hd=>rfl);(case hg=>rfl);(case hr=>first|(go_simp;done)|(go_simp;rfl));intro gb212 hg w6 hbox hb;have n0_:=Aside0.mk (blk_below (g:=gb210) (o:=.cells #[.slice A0_0 l0_0.length c0_0,.slice A0_1 l0_1.length c0_1] 79 (0,0)) qz85 hb);have n1_:=Aside0.mk (blk_below (g:=gb211) (o:=.cells #[.slice none 0 0,.slice none 0 0] 86 (0,0)) qz123 hb);have n2_:=Aside0.mk (below_step qz113 hb);have n3_:=Aside0.mk (hbox);have n4_:=Aside0.mk ((by rw [hg];exact (below_size qz113):w.heap.size≤gb212));have n5_:=Aside0.mk ((by rw [hg];exact (below_size qz113):w.heap.size≤gb212));have n6_:=Aside0.mk ((by rw [hg];exact Nat.ne_of_lt (blk_lt (g:=gb210) (o:=.cells #[.slice A0_0 l0_0.length c0_0,.slice A0_1 l0_1.length c0_1] 79 (0,0)) qz85):gb210≠gb212));have n7_:=Aside0.mk ((by rw [hg];exact Nat.ne_of_gt (blk_lt (g:=gb210) (o:=.cells #[.slice A0_0 l0_0.length c0_0,.slice A0_1 l0_1.length c0_1] 79 (0,0)) qz85):gb212≠gb210));have n8_:=Aside0.mk ((by rw [hg];exact Nat.ne_of_lt (blk_lt (g:=gb211) (o:=.cells #[.slice none 0 0,.slice none 0 0] 86 (0,0)) qz123):gb211≠gb212));have n9_:=Aside0.mk ((by rw [hg];exact Nat.ne_of_gt (blk_lt (g:=gb211) (o:=.cells #[.slice none 0 0,.slice none 0 0] 86 (0,0)) qz123):gb212≠gb211));clear BK210 BK211 HB;have BK210:=n0_;have BK211:=n1_;have HB:=n2_;have BK212:=n3_;have GW212:=n4_;have GE212:=n5_;have NB210_212:=n6_;have NB212_210:=n7_;have NB211_212:=n8_;have NB212_211:=n9_;clear n0_ n1_ n2_ n3_ n4_ n5_ n6_ n7_ n8_ n9_ hb hbox hg;have hnb7:=NB210_211.out;have hnc7:=NB211_210.out;have hnb8:=NB210_212.out;have hnc8:=NB212_210.out;have hcz9_0:w6.cell? ⟨gb210,0,none⟩=some (.slice A0_0 l0_0.length c0_0):=(blk_cell BK210.out 0).trans rfl;have hcz9_1:w6.cell? ⟨gb210,1,none⟩=some (.slice A0_1 l0_1.length c0_1):=(blk_cell BK210.out 1).trans rfl;have hfz9_0:=blk_frozen BK210.out 0;have hfz9_1:=blk_frozen BK210.out 1)|((with_reducible refine gate_callee (f:=10) rfl ?_);refine goesL_ (some 6) rfl rfl Tryd.func10 (by kernel_rfl) rfl #[.slice A0_0 l0_0.length c0_0] rfl qz2 ?_;(with_reducible refine (laws_toTrmCellS.calls k _ _ l0_0 t213 _ ?side1 ?side2 A2.out).mono ?_);(case side1=>exact qz8);(case side2=>exact HC0_0.out);rintro e w10 ⟨v214,rfl,ho0,hb⟩;refine ⟨_,rfl,?_⟩;have n0_:=Aside0.mk (Kd.R_lower ho0 (below_size qz68));have n1_:=Aside0.mk (blk_below (g:=gb210) (o:=.cells #[.slice A0_0 l0_0.length c0_0,.slice A0_1 l0_1.length c0_1] 79 (0,0)) qz85 hb);have n2_:=Aside0.mk (blk_below (g:=gb211) (o:=.cells #[.slice none 0 0,.slice none 0 0] 86 (0,0)) qz123 hb);have n3_:=Aside0.mk (blk_below (g:=gb212) (o:=.cells #[.slice none 0 0,.slice none 0 0] 86 (0,0)) (by (with_reducible repeat (first|refine blk_drewN ?_ _|refine blk_drew ?_|refine blk_alloc ?_ _));exact BK212.out) hb);have n4_:=Aside0.mk (below_step qz68 hb);clear BK210 BK211 BK212 HB;have HO215:=n0_;have BK210:=n1_;have BK211:=n2_;have BK212:=n3_;have HB:=n4_;clear n0_ n1_ n2_ n3_ n4_;(try clear hb);(try clear hb2);(try clear hk);(try clear hi);(try clear ho0);obtain ⟨Ao11,co11,eo11⟩:=Kd.R_slice HO215.out;subst eo11;have hnb12:=NB212_211.out;have hnc12:=NB211_212.out;have hcz13_0:w10.cell? ⟨gb212,0,none⟩=some (.slice none 0 0):=(blk_cell BK212.out 0).trans rfl;have hcz13_1:w10.cell? ⟨gb212,1,none⟩=some (.slice none 0 0):=(blk_cell BK212.out 1).trans rfl;have hfz13_0:=blk_frozen BK212.out 0;have hfz13_1:=blk_frozen BK212.out 1;have hcz14_0:w10.cell? ⟨gb210,0,none⟩=some (.slice A0_0 l0_0.length c0_0):=(blk_cell BK210.out 0).trans rfl;have hcz14_1:w10.cell? ⟨gb210,1,none⟩=some (.slice A0_1 l0_1.length c0_1):=(blk_cell BK210.out 1).trans rfl;have hfz14_0:=blk_frozen BK210.out 0;have hfz14_1:=blk_frozen BK210.out 1)|((with_reducible refine gate_callee (f:=77) rfl ?_);refine goesL_ (some 10) rfl rfl Tryd.func77 (by kernel_rfl) rfl #[.slice A0_1 l0_1.length c0_1] rfl qz2 ?_;(with_reducible refine (laws_toPrgGoalS.calls k _ _ l0_1 t216 _ ?side1 ?side2 A3.out).mono ?_);(case side1=>exact Kd.C_below HR0_1.out qz68);(case side2=>exact HC0_1.out);rintro e w15 ⟨v217,rfl,ho0,hb⟩;refine ⟨_,rfl,?_⟩;have n0_:=Aside0.mk (Kd.R_below qz135 hb);have n1_:=Aside0.mk (Kd.S_lower (Kd.S_new' ho0 (Kd.R_lt qz135)) (below_size qz68));have n2_:=Aside0.mk (blk_below (g:=gb210) (o:=.cells #[.slice A0_0 l0_0.length c0_0,.slice A0_1 l0_1.length c0_1] 79 (0,0)) (by (with_reducible repeat (first|refine blk_drewN ?_ _|refine blk_drew ?_|refine blk_alloc ?_ _));refine blk_far ?_ NB210_212.out _;(with_reducible repeat (first|refine blk_drewN ?_ _|refine blk_drew ?_|refine blk_alloc ?_ _));exact BK210.out) hb);have n3_:=Aside0.mk (blk_below (g:=gb211) (o:=.cells #[.slice none 0 0,.slice none 0 0] 86 (0,0)) (by (with_reducible repeat (first|refine blk_drewN ?_ _|refine blk_drew ?_|refine blk_alloc ?_ _));refine blk_far ?_ NB211_212.out _;(with_reducible repeat (first|refine blk_drewN ?_ _|refine blk_drew ?_|refine blk_alloc ?_ _));exact BK211.out) hb);have n4_:=Aside0.mk (blk_below (g:=gb212) (o:=.cells #[.slice Ao11 t213.length co11,.slice none 0 0] 86 (0,0)) (by (with_reducible repeat (first|refine blk_drewN ?_ _|refine blk_drew ?_|refine blk_alloc ?_ _));refine blk_put (cs:=#[.slice none 0 0,.slice none 0 0]) ?_ 0 _ rfl;(with_reducible repeat (first|refine blk_drewN ?_ _|refine blk_drew ?_|refine blk_alloc ?_ _));exact BK212.out) hb);have n5_:=Aside0.mk (below_step qz68 hb);clear HO215 BK210 BK211 BK212 HB;have HO215:=n0_;have HO218:=n1_;have BK210:=n2_;have BK211:=n3_;have BK212:=n4_;have HB:=n5_;clear n0_ n1_ n2_ n3_ n4_ n5_;(try clear hb);(try clear hb2);(try clear hk);(try clear hi);(try clear ho0);obtain ⟨Ao16,co16,eo16⟩:=Kd.S_slice HO218.out;subst eo16;have hcz17_0:w15.cell? ⟨gb212,0,none⟩=some (.slice Ao11 t213.length co11):=(blk_cell BK212.out 0).trans rfl;have hcz17_1:w15.cell? ⟨gb212,1,none⟩=some (.slice none 0 0):=(blk_cell BK212.out 1).trans rfl;have hfz17_0:=blk_frozen BK212.out 0;have hfz17_1:=blk_frozen BK212.out 1;have hcz18_0:w15.cell? ⟨gb211,0,none⟩=some (.slice none 0 0):=(blk_cell BK211.out 0).trans rfl;have hcz18_1:w15.cell? ⟨gb211,1,none⟩=some (.slice none 0 0):=(blk_cell BK211.out 1).trans rfl;have hfz18_0:=blk_frozen BK211.out 0;have hfz18_1:=blk_frozen BK211.out 1))
 refine bodyPost_ret (results_cell_row rfl _ _ gb211 86 #[.slice Ao11 t213.length co11,.slice Ao16 t216.length co16] (0,0) _ rfl (by (with_reducible repeat (first|refine blk_drewN ?_ _|refine blk_drew ?_|refine blk_alloc ?_ _));refine blk_put (cs:=#[.slice Ao11 t213.length co11,.slice none 0 0]) ?_ 1 _ rfl;(with_reducible repeat (first|refine blk_drewN ?_ _|refine blk_drew ?_|refine blk_alloc ?_ _));refine blk_put (cs:=#[.slice none 0 0,.slice none 0 0]) ?_ 0 _ rfl;(with_reducible repeat (first|refine blk_drewN ?_ _|refine blk_drew ?_|refine blk_alloc ?_ _));refine blk_far ?_ NB211_212.out _;(with_reducible repeat (first|refine blk_drewN ?_ _|refine blk_drew ?_|refine blk_alloc ?_ _));exact BK211.out) Tryd.underlying86 rfl (by kernel_rfl)) rfl ?_
 exact ⟨_,_,qz3,by (with_reducible repeat (first|apply Kd.R_alloc|apply Kd.R_drewN|apply Kd.R_drew));exact Kd.R_mono (Kd.R_far (p:=⟨gb211,1,none⟩) (Kd.R_far (p:=⟨gb211,0,none⟩) (Kd.R_far (p:=⟨gb212,1,none⟩) (Kd.R_types (Kd.R_types HO215.out BK212.out (by decide)) BK211.out (by decide)) (fun _ hk=>hk.1.2) (.slice Ao16 t216.length co16)) (fun _ hk=>hk.2) (.slice Ao11 t213.length co11)) (fun _ hk=>hk.2) (.slice Ao16 t216.length co16)) (fun _ hk=>trivial),by (with_reducible repeat (first|apply Kd.S_alloc|apply Kd.S_drewN|apply Kd.S_drew));exact Kd.S_mono (Kd.S_far (p:=⟨gb211,1,none⟩) (Kd.S_far (p:=⟨gb211,0,none⟩) (Kd.S_far (p:=⟨gb212,1,none⟩) (Kd.S_types (Kd.S_types HO218.out BK212.out (by decide)) BK211.out (by decide)) (fun _ hk=>hk.1.2) (.slice Ao16 t216.length co16)) (fun _ hk=>hk.2) (.slice Ao11 t213.length co11)) (fun _ hk=>hk.2) (.slice Ao16 t216.length co16)) (fun _ hk=>hk.1.1.2),qz68⟩

/-! ### laws_toPrgClauseS: function 33 -/
def laws_toPrgClauseS.l0:Nat→List (S79)→List (S86)→Int→Option ((List (S86)))
 | 0,_,_,_=>none
 | k+1,x0,x3,x4=>if x4<(x0.length:Int) then (if 0≤x4 then ((laws_toPrgClause.f k ((rd_T79 x0 x4).f0) ((rd_T79 x0 x4).f1)).bind fun bt223=>(if x4<(x3.length:Int) then (laws_toPrgClauseS.l0 k x0 (x3.set (x4:Int).toNat (⟨bt223.1,bt223.2⟩:S86)) (wrap64 (x4+1))) else (none))) else (none)) else (some x3)
def laws_toPrgClauseS.f (k:Nat) (l0:List (S79)):Option ((List (S86))):=if 0≤(l0.length:Int) then (if ((l0.length:Int):Int).toNat≤5864062014805 then (laws_toPrgClauseS.l0 k l0 (List.replicate ((l0.length:Int):Int).toNat z86) 0) else (none)) else (none)
set_option maxHeartbeats 8000000 in
set_option maxRecDepth 100000 in
theorem laws_toPrgClauseS.calls (k:Nat) (A0:Option Addr) (c0:Nat) (l0:List (S79)) (r:List (S86)) (w:World) (hr0:Kd.C k79 w A0 l0.length l0) (hc0:l0.length≤c0) (h:laws_toPrgClauseS.f k l0=some r) :
  Calls Tryd.prog 33 #[.slice A0 l0.length c0] w fun e w'=>∃ v0_:Value,e = .returned (v0_)∧Kd.R k86 86 w' w.heap.size (fun _=>True) v0_ r∧Below w.heap.size w w':=by
 have hu79:=Tryd.underlying79
 have hu86:=Tryd.underlying86
 have HR0:=Aside0.mk hr0
 have HC0:=Aside0.mk hc0
 clear hr0 hc0
 have HB:=Aside0.mk (Below.refl w.heap.size w)
 have H:(if 0≤(l0.length:Int) then (if ((l0.length:Int):Int).toNat≤5864062014805 then (laws_toPrgClauseS.l0 k l0 (List.replicate ((l0.length:Int):Int).toNat z86) 0) else (none)) else (none))=some r:=h
 clear h
 by_cases c2:0≤(l0.length:Int)
 ·rw [if_pos c2] at H
  have c2b0:=eq_true c2
  have c2b1:decide (0≤(l0.length:Int))=true:=decide_eq_true c2
  clear c2
  by_cases c3:((l0.length:Int):Int).toNat≤5864062014805
  ·rw [if_pos c3] at H
   have c3b0:=eq_true c3
   have c3b1:decide (((l0.length:Int):Int).toNat≤5864062014805)=true:=decide_eq_true c3
   clear c3
   obtain ⟨y219,hy219⟩:∃ y_:List (S86),y_=(List.replicate ((l0.length:Int):Int).toNat z86):=⟨_,rfl⟩
   replace H:(laws_toPrgClauseS.l0 k l0 y219 0)=some r:=by first|(rw [hy219];exact H)|exact H
   have Ny219:=Aside0.mk hy219
   clear hy219
   have H':=Aside0.mk H
   clear H
   go_enter Tryd.func33,Tryd.ntmps33
   go_wp2_with (first|((with_reducible refine gate_dst (N:=7) rfl ?_);refine Kd.R_make k86 _ 86 rfl (N:=7) rfl 30 _ _ rfl (l0.length:Int) rfl rfl Tryd.underlying30 (.agg #[(.slice none 0 0),(.slice none 0 0)]) 48 info86 rfl (by decide) (by omega) z86 (ok:=fun _=>True) (okp:=fun _=>True) (k86_mkM _ _ _ z86 (Kd.R_nil _ _ _ _ _) (Kd.R_nil _ _ _ _ _)) (fun _ hk=>hk) trivial (of_decide_eq_true qz7) (Nat.le_trans (Nat.mul_le_mul_right _ (of_decide_eq_true qz7:(l0.length:Int).toNat≤5864062014805)) (by omega)) (Below.refl _ _) (Nat.le_refl _) ?_;intro v220 w4 ho5 hb hg_ hnew_;clear hg_ hnew_;(first|rw [← Ny219.out] at ho5|(simp only [Int.reduceToNat] at ho5;rw [← Ny219.out] at ho5));have n0_:=Aside0.mk (Kd.R_lower ho5 (below_size qz1));have n1_:=Aside0.mk (below_step qz1 hb);clear HB;have HO221:=n0_;have HB:=n1_;clear n0_ n1_ hb ho5))
   go_loopg [4] k (fun kq v4 w'=>∃ (x3_1:List (S86)) (x4_1:Int),v4 = .int .i64 x4_1∧Aside0 (laws_toPrgClauseS.l0 kq l0 x3_1 x4_1=some r)∧Aside0 (kq≤k)∧Aside0 (Kd.R k86 86 w' w.heap.size (fun _=>True) v220 x3_1)∧Aside0 (Below w.heap.size w w'))
   case atStart=>exact ⟨(y219),(0),qz12,H',⟨Nat.le_refl _⟩,⟨by (with_reducible repeat (first|apply Kd.R_alloc|apply Kd.R_drewN|apply Kd.R_drew));exact HO221.out⟩,⟨qz4⟩⟩
   case round=>
    clear H'
    try clear c2
    try clear c2b0
    try clear c2b1
    try clear p2
    try clear c3
    try clear c3b0
    try clear c3b1
    obtain ⟨x3_1,x4_1,rfl,HA,HK1,HO_3,HB⟩:=hrel
    cases gk with
    | zero=>exact absurd HA.out (by simp [laws_toPrgClauseS.l0])
    | succ k1=>
     have H:=HA.out
     clear HA
     simp only [laws_toPrgClauseS.l0] at H
     by_cases c6:x4_1<(l0.length:Int)
     ·rw [if_pos c6] at H
      have c6b0:decide (x4_1<(l0.length:Int))=true:=decide_eq_true c6
      clear c6
      by_cases c7:0≤x4_1
      ·rw [if_pos c7] at H
       have c7b0:decide (0≤x4_1)=true:=decide_eq_true c7
       clear c7
       replace H:=Option.bind_eq_some_iff.mp H
       obtain ⟨⟨t223,t226⟩,A80,H⟩:=H
       try dsimp only at H
       have A8:=Aside0.mk A80
       clear A80
       by_cases c9:x4_1<(x3_1.length:Int)
       ·rw [if_pos c9] at H
        have c9b0:decide (x4_1<(x3_1.length:Int))=true:=decide_eq_true c9
        clear c9
        obtain ⟨y229,hy229⟩:∃ y_:List (S86),y_=(x3_1.set (x4_1:Int).toNat (⟨t223,t226⟩:S86)):=⟨_,rfl⟩
        replace H:(laws_toPrgClauseS.l0 k1 l0 y229 (wrap64 (x4_1+1)))=some r:=by first|(rw [hy229];exact H)|exact H
        have Ny229:=Aside0.mk hy229
        clear hy229
        have H':=Aside0.mk H
        clear H
        have p222:0≤(x4_1:Int):=of_decide_eq_true qz7
        have q222:x4_1<(l0.length:Int):=of_decide_eq_true qz7
        obtain ⟨ad222,A222_0,c222_0,A222_1,c222_1,e222,hx222_0,hx222_1,hl222_0,hi222_0,hl222_1,hi222_1⟩:=at_T79 HR0.out x4_1 p222 q222
        cases e222
        replace hx222_0:=(HB.out.cell (World.block_lt_of_cell? w _ hx222_0)).trans hx222_0
        replace hx222_1:=(HB.out.cell (World.block_lt_of_cell? w _ hx222_1)).trans hx222_1
        have HR222_0:=Aside0.mk hi222_0
        have HC222_0:=Aside0.mk hl222_0
        clear hi222_0 hl222_0
        have HR222_1:=Aside0.mk hi222_1
        have HC222_1:=Aside0.mk hl222_1
        clear hi222_1 hl222_1
        replace p222:=eq_true p222
        replace q222:=eq_true q222
        go_wp2_with (first|((with_reducible refine gate_callee (f:=55) rfl ?_);refine goesL_ (some 20) rfl rfl Tryd.func55 (by kernel_rfl) rfl #[.agg #[.slice A222_0 ((rd_T79 l0 x4_1).f0).length c222_0,.slice A222_1 ((rd_T79 l0 x4_1).f1).length c222_1]] rfl qz2 ?_;(with_reducible refine (laws_toPrgClause.calls k1 _ _ ((rd_T79 l0 x4_1).f0) _ _ ((rd_T79 l0 x4_1).f1) t223 t226 _ ?side1 ?side2 ?side3 ?side4 A8.out).mono ?_);(case side1=>repeat (first|exact (Kd.C_below HR222_0.out HB.out)|(with_reducible refine Kd.C_alloc ?_ _)|(with_reducible refine Kd.C_drewN ?_ _)|(with_reducible refine Kd.C_drew ?_)));(case side2=>exact HC222_0.out);(case side3=>repeat (first|exact (Kd.C_below HR222_1.out HB.out)|(with_reducible refine Kd.C_alloc ?_ _)|(with_reducible refine Kd.C_drewN ?_ _)|(with_reducible refine Kd.C_drew ?_)));(case side4=>exact HC222_1.out);rintro e w11 ⟨v224,v227,rfl,ho0,ho1,hb⟩;refine ⟨_,rfl,?_⟩;have n0_:=Aside0.mk (Kd.R_mono (Kd.R_told (Kd.R_told (Kd.R_old qz74 hb) (Kd.R_base ho0)) (Kd.S_base ho1)) (fun _ h_=>h_.1));have n1_:=Aside0.mk (Kd.R_lower ho0 (below_size qz1));have n2_:=Aside0.mk (Kd.S_lower ho1 (below_size qz1));have n3_:=Aside0.mk (below_step qz1 hb);clear HO_3 HB;have HO_3:=n0_;have HO225:=n1_;have HO228:=n2_;have HB:=n3_;clear n0_ n1_ n2_ n3_;(try clear hb);(try clear hb2);(try clear hk);(try clear hi);(try clear ho0);(try clear ho1);have p10:0≤(x4_1:Int):=of_decide_eq_true qz7;have q10:(x4_1:Int)<((x3_1.length:Int):Int):=of_decide_eq_true qz7;obtain ⟨go10,co10,eo10,gb10,gl10,cl10,HG10⟩:=Kd.R_form HO_3.out (by omega);(first|cases eo10|(injection eo10 with ea_ en_ ec_;(first|subst ea_|(injection ea_ with ea_;subst ea_));subst ec_;clear en_));have GB10:=Aside0.mk gb10;have GG10:=Aside0.mk HG10;clear gb10 gl10 HG10;obtain ⟨ce10,hcl10,hM10,hcc10,hfr10⟩:=Kd.R_elem HO_3.out z86 (x4_1:Int) p10 q10;obtain ⟨ve10_0,ve10_1,rfl,ge10_0,ge10_1⟩:=k86_openM hM10;have hx10_0:w11.cell? ⟨go10,(x4_1:Int).toNat * 2,none⟩=some (ve10_0):=hcc10 0 _ rfl;have hx10_1:w11.cell? ⟨go10,(x4_1:Int).toNat * 2+1,none⟩=some (ve10_1):=hcc10 1 _ rfl;have hf10_0:w11.frozen? ⟨go10,(x4_1:Int).toNat * 2,none⟩=false:=hfr10 0;have hf10_1:w11.frozen? ⟨go10,(x4_1:Int).toNat * 2+1,none⟩=false:=hfr10 1;(try clear hcl10);(try clear hcc10);(try clear hfr10);(try clear hM10);replace p10:=eq_true p10;replace q10:=eq_true q10;have n_:=Aside0.mk (Kd.R_mono (ok':=(fun k_=>some k_≠(v224:Value).ownBlock∧some k_≠(v227:Value).ownBlock)) HO_3.out (fun k_ hk=>⟨hk.1.2,hk.2⟩));clear HO_3;have HO_3:=n_;clear n_;have HX12:=Aside0.mk (show Kd.R k86 86 w11 w.heap.size (fun _=>True) (.slice (some ⟨go10,0,none⟩) x3_1.length co10) x3_1 from (by (with_reducible repeat (first|apply Kd.R_alloc|apply Kd.R_drewN|apply Kd.R_drew));exact Kd.R_mono HO_3.out (fun _ hk=>trivial)));obtain ⟨ce12,hcl12,hM12,hcc12,hfr12⟩:=Kd.R_elem HX12.out z86 (x4_1:Int) (of_decide_eq_true qz7) (by have h_:(x4_1:Int)<((x3_1.length:Int):Int):=of_decide_eq_true qz7;first|exact h_|(have e_:=(Kd.R_reads' HO_3.out).1;omega)|simpa using h_);obtain ⟨ve12_0,ve12_1,rfl,ge12_0,ge12_1⟩:=k86_openM hM12;have HP12:=Kd.R_seg HX12.out (x4_1:Int) (of_decide_eq_true qz7) (by have h_:(x4_1:Int)<((x3_1.length:Int):Int):=of_decide_eq_true qz7;first|exact h_|(have e_:=(Kd.R_reads' HO_3.out).1;omega)|simpa using h_) (seg:=[v224,v227]) (j:=0) hcl12 hcc12 (show 2≤2 from by decide) (x':=(⟨t223,t226⟩:S86)) (k86_mkM _ _ _ (⟨t223,t226⟩:S86) (Kd.R_mono (Kd.R_apart' (HO225.out) (Kd.R_typed HO_3.out) (by decide)) (fun k_ hk=>⟨trivial,fun e_=>(hk.2) (by rw [e_];rfl)⟩)) (Kd.R_mono (Kd.R_apart' ((Kd.S_R HO228.out)) (Kd.R_typed HO_3.out) (by decide)) (fun k_ hk=>⟨trivial,fun e_=>(hk.2) (by rw [e_];rfl)⟩))) (fun _ hk=>hk);have hx12_0:=hcc12 0 _ rfl;(try simp only [show (k86).sz=2 from rfl,Nat.mul_one,Nat.add_zero] at hx12_0);have hf12_0:=hfr12 0;(try simp only [show (k86).sz=2 from rfl,Nat.mul_one,Nat.add_zero] at hf12_0);have hx12_1:=hcc12 1 _ rfl;(try simp only [show (k86).sz=2 from rfl,Nat.mul_one,Nat.add_zero] at hx12_1);have hf12_1:=hfr12 1;(try simp only [show (k86).sz=2 from rfl,Nat.mul_one,Nat.add_zero] at hf12_1);clear hcl12 hcc12 hfr12 hM12)|((with_reducible refine gate_store (t:=86) (p:=21) rfl ?_);refine store_event (t:=86) (p:=21) (v:=?vo_w13) (w1:=((w11.setCell ⟨go10,(x4_1:Int).toNat * 2,none⟩ (v224)).setCell ⟨go10,(x4_1:Int).toNat * 2+1,none⟩ (v227))) ?hg ?ho ?hn ?hr ?_;(case ho=>rfl);(case hg=>rfl);(case hn=>rfl);(case hr=>first|(go_simp;done)|(go_simp;rfl)|(obtain ⟨_,_,ev0_⟩:=Kd.R_slice HO225.out;obtain ⟨_,_,ev1_⟩:=Kd.S_slice HO228.out;rw [ev0_,ev1_];first|(go_simp;done)|(go_simp;rfl)));intro w13 hw;have hg:w11.grownBy w13 (some go10):=(by rw [hw];exact HP12.2);have hp_:Kd.R k86 86 w13 w.heap.size (fun _=>True) (.slice (some ⟨go10,0,none⟩) x3_1.length co10) y229:=(by rw [hw,Ny229.out];exact HP12.1);clear HP12;have n0_:=Aside0.mk (hp_);have n1_:=Aside0.mk ((by rw [hw];exact below_set (below_set (HB.out) GB10.out) GB10.out:Below w.heap.size w w13));clear HO_3 HB HO225 HO228;have HO_3:=n0_;have HB:=n1_;clear n0_ n1_ hg hw hp_))
        go_roundg k1
        case measure=>have:=HK1.out;omega
        case rel=>exact ⟨(y229),(wrap64 (x4_1+1)),qz12,H',⟨by have:=HK1.out;omega⟩,⟨qz74⟩,⟨qz4⟩⟩
       ·rw [if_neg c9] at H
        exact absurd H (by simp)
      ·rw [if_neg c7] at H
       exact absurd H (by simp)
     ·rw [if_neg c6] at H
      have c6b0:decide (x4_1<(l0.length:Int))=false:=decide_eq_false c6
      clear c6
      obtain rfl:=Option.some.inj H
      go_wp2
      go_ret
      exact ⟨_,qz3,qz74,qz4⟩
  ·rw [if_neg c3] at H
   exact absurd H (by simp)
 ·rw [if_neg c2] at H
  exact absurd H (by simp)

/-! ### laws_toPrgPlace: function 56 -/
def laws_toPrgPlace.f (a0_0:ByteArray) (a0_1:Int) (a0_2:Int):Option (ByteArray × Int × Int):=some (a0_0,a0_1,a0_2)
set_option maxHeartbeats 8000000 in
set_option maxRecDepth 100000 in
theorem laws_toPrgPlace.calls (a0_0:ByteArray) (a0_1:Int) (a0_2:Int) (r1:ByteArray) (r2:Int) (r3:Int) (w:World) (h:laws_toPrgPlace.f a0_0 a0_1 a0_2=some (r1,r2,r3)) :
  Calls Tryd.prog 56 #[.agg #[.string a0_0,.int .i64 a0_1,.int .i64 a0_2]] w fun e w'=>e = .returned (.agg #[.string r1,.int .i64 r2,.int .i64 r3])∧Below w.heap.size w w':=by
 have hu82:=Tryd.underlying82
 have hu88:=Tryd.underlying88
 have HB:=Aside0.mk (Below.refl w.heap.size w)
 have H:(some (a0_0,a0_1,a0_2))=some (r1,r2,r3):=h
 clear h
 simp only [Option.some.injEq,Prod.mk.injEq] at H
 obtain ⟨rfl,rfl,rfl⟩:=H
 go_enter Tryd.func56,Tryd.ntmps56
 go_wp2_with (first|((with_reducible refine gate_dst (N:=1) rfl ?_);refine box_event ?hg (N:=1) ?hd (cs:=#[.string a0_0,.int .i64 a0_1,.int .i64 a0_2]) (t:=82) ?hr ?_;(case hd=>rfl);(case hg=>rfl);(case hr=>first|(go_simp;done)|(go_simp;rfl));intro gb230 hg w2 hbox hb;have n0_:=Aside0.mk (below_step qz1 hb);have n1_:=Aside0.mk (hbox);have n2_:=Aside0.mk ((by rw [hg];exact (below_size qz1):w.heap.size≤gb230));have n3_:=Aside0.mk ((by rw [hg];exact (below_size qz1):w.heap.size≤gb230));clear HB;have HB:=n0_;have BK230:=n1_;have GW230:=n2_;have GE230:=n3_;clear n0_ n1_ n2_ n3_ hb hbox hg)|((with_reducible refine gate_dst (N:=2) rfl ?_);refine box_event ?hg (N:=2) ?hd (cs:=#[.string (⟨#[]⟩:ByteArray),.int .i64 0,.int .i64 0]) (t:=88) ?hr ?_;(case hd=>rfl);(case hg=>rfl);(case hr=>first|(go_simp;done)|(go_simp;rfl));intro gb231 hg w3 hbox hb;have n0_:=Aside0.mk (blk_below (g:=gb230) (o:=.cells #[.string a0_0,.int .i64 a0_1,.int .i64 a0_2] 82 (0,0)) qz93 hb);have n1_:=Aside0.mk (below_step qz129 hb);have n2_:=Aside0.mk (hbox);have n3_:=Aside0.mk ((by rw [hg];exact (below_size qz129):w.heap.size≤gb231));have n4_:=Aside0.mk ((by rw [hg];exact (below_size qz129):w.heap.size≤gb231));have n5_:=Aside0.mk ((by rw [hg];exact Nat.ne_of_lt (blk_lt (g:=gb230) (o:=.cells #[.string a0_0,.int .i64 a0_1,.int .i64 a0_2] 82 (0,0)) qz93):gb230≠gb231));have n6_:=Aside0.mk ((by rw [hg];exact Nat.ne_of_gt (blk_lt (g:=gb230) (o:=.cells #[.string a0_0,.int .i64 a0_1,.int .i64 a0_2] 82 (0,0)) qz93):gb231≠gb230));clear BK230 HB;have BK230:=n0_;have HB:=n1_;have BK231:=n2_;have GW231:=n3_;have GE231:=n4_;have NB230_231:=n5_;have NB231_230:=n6_;clear n0_ n1_ n2_ n3_ n4_ n5_ n6_ hb hbox hg)|((with_reducible refine gate_dst (N:=3) rfl ?_);refine box_event ?hg (N:=3) ?hd (cs:=#[.string (⟨#[]⟩:ByteArray),.int .i64 0,.int .i64 0]) (t:=88) ?hr ?_;(case hd=>rfl);(case hg=>rfl);(case hr=>first|(go_simp;done)|(go_simp;rfl));intro gb232 hg w4 hbox hb;have n0_:=Aside0.mk (blk_below (g:=gb230) (o:=.cells #[.string a0_0,.int .i64 a0_1,.int .i64 a0_2] 82 (0,0)) qz93 hb);have n1_:=Aside0.mk (blk_below (g:=gb231) (o:=.cells #[.string (⟨#[]⟩:ByteArray),.int .i64 0,.int .i64 0] 88 (0,0)) qz140 hb);have n2_:=Aside0.mk (below_step qz112 hb);have n3_:=Aside0.mk (hbox);have n4_:=Aside0.mk ((by rw [hg];exact (below_size qz112):w.heap.size≤gb232));have n5_:=Aside0.mk ((by rw [hg];exact (below_size qz112):w.heap.size≤gb232));have n6_:=Aside0.mk ((by rw [hg];exact Nat.ne_of_lt (blk_lt (g:=gb230) (o:=.cells #[.string a0_0,.int .i64 a0_1,.int .i64 a0_2] 82 (0,0)) qz93):gb230≠gb232));have n7_:=Aside0.mk ((by rw [hg];exact Nat.ne_of_gt (blk_lt (g:=gb230) (o:=.cells #[.string a0_0,.int .i64 a0_1,.int .i64 a0_2] 82 (0,0)) qz93):gb232≠gb230));have n8_:=Aside0.mk ((by rw [hg];exact Nat.ne_of_lt (blk_lt (g:=gb231) (o:=.cells #[.string (⟨#[]⟩:ByteArray),.int .i64 0,.int .i64 0] 88 (0,0)) qz140):gb231≠gb232));have n9_:=Aside0.mk ((by rw [hg];exact Nat.ne_of_gt (blk_lt (g:=gb231) (o:=.cells #[.string (⟨#[]⟩:ByteArray),.int .i64 0,.int .i64 0] 88 (0,0)) qz140):gb232≠gb231));clear BK230 BK231 HB;have BK230:=n0_;have BK231:=n1_;have HB:=n2_;have BK232:=n3_;have GW232:=n4_;have GE232:=n5_;have NB230_232:=n6_;have NB232_230:=n7_;have NB231_232:=n8_;have NB232_231:=n9_;clear n0_ n1_ n2_ n3_ n4_ n5_ n6_ n7_ n8_ n9_ hb hbox hg;have hnb5:=NB230_231.out;have hnc5:=NB231_230.out;have hnb6:=NB230_232.out;have hnc6:=NB232_230.out;have hcz7_0:w4.cell? ⟨gb230,0,none⟩=some (.string a0_0):=(blk_cell BK230.out 0).trans rfl;have hcz7_1:w4.cell? ⟨gb230,1,none⟩=some (.int .i64 a0_1):=(blk_cell BK230.out 1).trans rfl;have hcz7_2:w4.cell? ⟨gb230,2,none⟩=some (.int .i64 a0_2):=(blk_cell BK230.out 2).trans rfl;have hfz7_0:=blk_frozen BK230.out 0;have hfz7_1:=blk_frozen BK230.out 1;have hfz7_2:=blk_frozen BK230.out 2;have hnb8:=NB232_231.out;have hnc8:=NB231_232.out;have hcz9_0:w4.cell? ⟨gb232,0,none⟩=some (.string (⟨#[]⟩:ByteArray)):=(blk_cell BK232.out 0).trans rfl;have hcz9_1:w4.cell? ⟨gb232,1,none⟩=some (.int .i64 0):=(blk_cell BK232.out 1).trans rfl;have hcz9_2:w4.cell? ⟨gb232,2,none⟩=some (.int .i64 0):=(blk_cell BK232.out 2).trans rfl;have hfz9_0:=blk_frozen BK232.out 0;have hfz9_1:=blk_frozen BK232.out 1;have hfz9_2:=blk_frozen BK232.out 2;have hcz10_0:w4.cell? ⟨gb231,0,none⟩=some (.string (⟨#[]⟩:ByteArray)):=(blk_cell BK231.out 0).trans rfl;have hcz10_1:w4.cell? ⟨gb231,1,none⟩=some (.int .i64 0):=(blk_cell BK231.out 1).trans rfl;have hcz10_2:w4.cell? ⟨gb231,2,none⟩=some (.int .i64 0):=(blk_cell BK231.out 2).trans rfl;have hfz10_0:=blk_frozen BK231.out 0;have hfz10_1:=blk_frozen BK231.out 1;have hfz10_2:=blk_frozen BK231.out 2))
 refine bodyPost_ret (results_cell_row rfl _ _ gb231 88 #[.string a0_0,.int .i64 a0_1,.int .i64 a0_2] (0,0) _ rfl (by (with_reducible repeat (first|refine blk_drewN ?_ _|refine blk_drew ?_|refine blk_alloc ?_ _));refine blk_put (cs:=#[.string a0_0,.int .i64 a0_1,.int .i64 0]) ?_ 2 _ rfl;(with_reducible repeat (first|refine blk_drewN ?_ _|refine blk_drew ?_|refine blk_alloc ?_ _));refine blk_put (cs:=#[.string a0_0,.int .i64 0,.int .i64 0]) ?_ 1 _ rfl;(with_reducible repeat (first|refine blk_drewN ?_ _|refine blk_drew ?_|refine blk_alloc ?_ _));refine blk_put (cs:=#[.string (⟨#[]⟩:ByteArray),.int .i64 0,.int .i64 0]) ?_ 0 _ rfl;(with_reducible repeat (first|refine blk_drewN ?_ _|refine blk_drew ?_|refine blk_alloc ?_ _));refine blk_far ?_ NB231_232.out _;(with_reducible repeat (first|refine blk_drewN ?_ _|refine blk_drew ?_|refine blk_alloc ?_ _));refine blk_far ?_ NB231_232.out _;(with_reducible repeat (first|refine blk_drewN ?_ _|refine blk_drew ?_|refine blk_alloc ?_ _));refine blk_far ?_ NB231_232.out _;(with_reducible repeat (first|refine blk_drewN ?_ _|refine blk_drew ?_|refine blk_alloc ?_ _));exact BK231.out) Tryd.underlying88 rfl (by kernel_rfl)) rfl ?_
 exact ⟨qz3,by repeat (first|(with_reducible first|exact HB.out|apply below_alloc|apply pw_below_drewN|apply below_drew1|refine below_set ?_ GE230.out|refine below_set ?_ GE231.out|refine below_set ?_ GE232.out)|exact HB.out)⟩

/-! ### laws_toPrgPlaceS: function 34 -/
def laws_toPrgPlaceS.l0:Nat→List (S82)→List (S88)→Int→Option ((List (S88)))
 | 0,_,_,_=>none
 | k+1,x0,x3,x4=>if x4<(x0.length:Int) then (if 0≤x4 then ((laws_toPrgPlace.f ((rd_T82 x0 x4).f0) ((rd_T82 x0 x4).f1) ((rd_T82 x0 x4).f2)).bind fun bt237=>(if x4<(x3.length:Int) then (laws_toPrgPlaceS.l0 k x0 (x3.set (x4:Int).toNat (⟨bt237.1,bt237.2.1,bt237.2.2⟩:S88)) (wrap64 (x4+1))) else (none))) else (none)) else (some x3)
def laws_toPrgPlaceS.f (k:Nat) (l0:List (S82)):Option ((List (S88))):=if 0≤(l0.length:Int) then (if ((l0.length:Int):Int).toNat≤8796093022208 then (laws_toPrgPlaceS.l0 k l0 (List.replicate ((l0.length:Int):Int).toNat z88) 0) else (none)) else (none)
set_option maxHeartbeats 8000000 in
set_option maxRecDepth 100000 in
theorem laws_toPrgPlaceS.calls (k:Nat) (A0:Option Addr) (c0:Nat) (l0:List (S82)) (r:List (S88)) (w:World) (hr0:Kd.C k82 w A0 l0.length l0) (hc0:l0.length≤c0) (h:laws_toPrgPlaceS.f k l0=some r) :
  Calls Tryd.prog 34 #[.slice A0 l0.length c0] w fun e w'=>∃ v0_:Value,e = .returned (v0_)∧Kd.R k88 88 w' w.heap.size (fun _=>True) v0_ r∧Below w.heap.size w w':=by
 have hu82:=Tryd.underlying82
 have hu88:=Tryd.underlying88
 have HR0:=Aside0.mk hr0
 have HC0:=Aside0.mk hc0
 clear hr0 hc0
 have HB:=Aside0.mk (Below.refl w.heap.size w)
 have H:(if 0≤(l0.length:Int) then (if ((l0.length:Int):Int).toNat≤8796093022208 then (laws_toPrgPlaceS.l0 k l0 (List.replicate ((l0.length:Int):Int).toNat z88) 0) else (none)) else (none))=some r:=h
 clear h
 by_cases c2:0≤(l0.length:Int)
 ·rw [if_pos c2] at H
  have c2b0:=eq_true c2
  have c2b1:decide (0≤(l0.length:Int))=true:=decide_eq_true c2
  clear c2
  by_cases c3:((l0.length:Int):Int).toNat≤8796093022208
  ·rw [if_pos c3] at H
   have c3b0:=eq_true c3
   have c3b1:decide (((l0.length:Int):Int).toNat≤8796093022208)=true:=decide_eq_true c3
   clear c3
   obtain ⟨y233,hy233⟩:∃ y_:List (S88),y_=(List.replicate ((l0.length:Int):Int).toNat z88):=⟨_,rfl⟩
   replace H:(laws_toPrgPlaceS.l0 k l0 y233 0)=some r:=by first|(rw [hy233];exact H)|exact H
   have Ny233:=Aside0.mk hy233
   clear hy233
   have H':=Aside0.mk H
   clear H
   go_enter Tryd.func34,Tryd.ntmps34
   go_wp2_with (first|((with_reducible refine gate_dst (N:=7) rfl ?_);refine Kd.R_make k88 _ 88 rfl (N:=7) rfl 31 _ _ rfl (l0.length:Int) rfl rfl Tryd.underlying31 (.agg #[(.string ⟨#[]⟩),(.int .i64 0),(.int .i64 0)]) 32 info88 rfl (by decide) (by omega) z88 (ok:=fun _=>True) (okp:=fun _=>True) (k88_mkM _ _ _ z88 ) (fun _ hk=>hk) trivial (of_decide_eq_true qz7) (Nat.le_trans (Nat.mul_le_mul_right _ (of_decide_eq_true qz7:(l0.length:Int).toNat≤8796093022208)) (by omega)) (Below.refl _ _) (Nat.le_refl _) ?_;intro v234 w4 ho5 hb hg_ hnew_;clear hg_ hnew_;(first|rw [← Ny233.out] at ho5|(simp only [Int.reduceToNat] at ho5;rw [← Ny233.out] at ho5));have n0_:=Aside0.mk (Kd.R_lower ho5 (below_size qz1));have n1_:=Aside0.mk (below_step qz1 hb);clear HB;have HO235:=n0_;have HB:=n1_;clear n0_ n1_ hb ho5))
   go_loopg [4] k (fun kq v4 w'=>∃ (x3_1:List (S88)) (x4_1:Int),v4 = .int .i64 x4_1∧Aside0 (laws_toPrgPlaceS.l0 kq l0 x3_1 x4_1=some r)∧Aside0 (kq≤k)∧Aside0 (Kd.R k88 88 w' w.heap.size (fun _=>True) v234 x3_1)∧Aside0 (Below w.heap.size w w'))
   case atStart=>exact ⟨(y233),(0),qz12,H',⟨Nat.le_refl _⟩,⟨by (with_reducible repeat (first|apply Kd.R_alloc|apply Kd.R_drewN|apply Kd.R_drew));exact HO235.out⟩,⟨qz4⟩⟩
   case round=>
    clear H'
    try clear c2
    try clear c2b0
    try clear c2b1
    try clear p2
    try clear c3
    try clear c3b0
    try clear c3b1
    obtain ⟨x3_1,x4_1,rfl,HA,HK1,HO_3,HB⟩:=hrel
    cases gk with
    | zero=>exact absurd HA.out (by simp [laws_toPrgPlaceS.l0])
    | succ k1=>
     have H:=HA.out
     clear HA
     simp only [laws_toPrgPlaceS.l0] at H
     by_cases c6:x4_1<(l0.length:Int)
     ·rw [if_pos c6] at H
      have c6b0:decide (x4_1<(l0.length:Int))=true:=decide_eq_true c6
      clear c6
      by_cases c7:0≤x4_1
      ·rw [if_pos c7] at H
       have c7b0:decide (0≤x4_1)=true:=decide_eq_true c7
       clear c7
       replace H:=Option.bind_eq_some_iff.mp H
       obtain ⟨⟨t237,t238,t239⟩,A80,H⟩:=H
       try dsimp only at H
       have A8:=Aside0.mk A80
       clear A80
       by_cases c9:x4_1<(x3_1.length:Int)
       ·rw [if_pos c9] at H
        have c9b0:decide (x4_1<(x3_1.length:Int))=true:=decide_eq_true c9
        clear c9
        obtain ⟨y240,hy240⟩:∃ y_:List (S88),y_=(x3_1.set (x4_1:Int).toNat (⟨t237,t238,t239⟩:S88)):=⟨_,rfl⟩
        replace H:(laws_toPrgPlaceS.l0 k1 l0 y240 (wrap64 (x4_1+1)))=some r:=by first|(rw [hy240];exact H)|exact H
        have Ny240:=Aside0.mk hy240
        clear hy240
        have H':=Aside0.mk H
        clear H
        have p236:0≤(x4_1:Int):=of_decide_eq_true qz7
        have q236:x4_1<(l0.length:Int):=of_decide_eq_true qz7
        obtain ⟨ad236,e236,hx236_0,hx236_1,hx236_2⟩:=at_T82 HR0.out x4_1 p236 q236
        cases e236
        replace hx236_0:=(HB.out.cell (World.block_lt_of_cell? w _ hx236_0)).trans hx236_0
        replace hx236_1:=(HB.out.cell (World.block_lt_of_cell? w _ hx236_1)).trans hx236_1
        replace hx236_2:=(HB.out.cell (World.block_lt_of_cell? w _ hx236_2)).trans hx236_2
        replace p236:=eq_true p236
        replace q236:=eq_true q236
        go_wp2_with (first|((with_reducible refine gate_callee (f:=56) rfl ?_);refine goesL_ (some 20) rfl rfl Tryd.func56 (by kernel_rfl) rfl #[.agg #[.string ((rd_T82 l0 x4_1).f0),.int .i64 ((rd_T82 l0 x4_1).f1),.int .i64 ((rd_T82 l0 x4_1).f2)]] rfl qz2 ?_;(with_reducible refine (laws_toPrgPlace.calls ((rd_T82 l0 x4_1).f0) ((rd_T82 l0 x4_1).f1) ((rd_T82 l0 x4_1).f2) t237 t238 t239 _ A8.out).mono ?_);rintro e w11 ⟨rfl,hb⟩;refine ⟨_,rfl,?_⟩;have n0_:=Aside0.mk (Kd.R_below qz74 hb);have n1_:=Aside0.mk (below_step qz1 hb);clear HO_3 HB;have HO_3:=n0_;have HB:=n1_;clear n0_ n1_;(try clear hb);(try clear hb2);(try clear hk);(try clear hi);have p10:0≤(x4_1:Int):=of_decide_eq_true qz7;have q10:(x4_1:Int)<((x3_1.length:Int):Int):=of_decide_eq_true qz7;obtain ⟨go10,co10,eo10,gb10,gl10,cl10,HG10⟩:=Kd.R_form HO_3.out (by omega);(first|cases eo10|(injection eo10 with ea_ en_ ec_;(first|subst ea_|(injection ea_ with ea_;subst ea_));subst ec_;clear en_));have GB10:=Aside0.mk gb10;have GG10:=Aside0.mk HG10;clear gb10 gl10 HG10;obtain ⟨ce10,hcl10,hM10,hcc10,hfr10⟩:=Kd.R_elem HO_3.out z88 (x4_1:Int) p10 q10;obtain rfl:=k88_openM hM10;have hx10_0:w11.cell? ⟨go10,(x4_1:Int).toNat * 3,none⟩=some (.string ((rd_T88 x3_1 x4_1).f0)):=hcc10 0 _ rfl;have hx10_1:w11.cell? ⟨go10,(x4_1:Int).toNat * 3+1,none⟩=some (.int .i64 ((rd_T88 x3_1 x4_1).f1)):=hcc10 1 _ rfl;have hx10_2:w11.cell? ⟨go10,(x4_1:Int).toNat * 3+2,none⟩=some (.int .i64 ((rd_T88 x3_1 x4_1).f2)):=hcc10 2 _ rfl;have hf10_0:w11.frozen? ⟨go10,(x4_1:Int).toNat * 3,none⟩=false:=hfr10 0;have hf10_1:w11.frozen? ⟨go10,(x4_1:Int).toNat * 3+1,none⟩=false:=hfr10 1;have hf10_2:w11.frozen? ⟨go10,(x4_1:Int).toNat * 3+2,none⟩=false:=hfr10 2;(try clear hcl10);(try clear hcc10);(try clear hfr10);(try clear hM10);replace p10:=eq_true p10;replace q10:=eq_true q10;have HX12:=Aside0.mk (show Kd.R k88 88 w11 w.heap.size (fun _=>True) (.slice (some ⟨go10,0,none⟩) x3_1.length co10) x3_1 from qz74);obtain ⟨ce12,hcl12,hM12,hcc12,hfr12⟩:=Kd.R_elem HX12.out z88 (x4_1:Int) (of_decide_eq_true qz7) (by have h_:(x4_1:Int)<((x3_1.length:Int):Int):=of_decide_eq_true qz7;first|exact h_|(have e_:=(Kd.R_reads' HO_3.out).1;omega)|simpa using h_);obtain rfl:=k88_openM hM12;have HP12:=Kd.R_seg HX12.out (x4_1:Int) (of_decide_eq_true qz7) (by have h_:(x4_1:Int)<((x3_1.length:Int):Int):=of_decide_eq_true qz7;first|exact h_|(have e_:=(Kd.R_reads' HO_3.out).1;omega)|simpa using h_) (seg:=[.string t237,.int .i64 t238,.int .i64 t239]) (j:=0) hcl12 hcc12 (show 3≤3 from by decide) (x':=(⟨t237,t238,t239⟩:S88)) (k88_mkM _ _ _ (⟨t237,t238,t239⟩:S88) ) (fun _ hk=>hk);have hx12_0:=hcc12 0 _ rfl;(try simp only [show (k88).sz=3 from rfl,Nat.mul_one,Nat.add_zero] at hx12_0);have hf12_0:=hfr12 0;(try simp only [show (k88).sz=3 from rfl,Nat.mul_one,Nat.add_zero] at hf12_0);have hx12_1:=hcc12 1 _ rfl;(try simp only [show (k88).sz=3 from rfl,Nat.mul_one,Nat.add_zero] at hx12_1);have hf12_1:=hfr12 1;(try simp only [show (k88).sz=3 from rfl,Nat.mul_one,Nat.add_zero] at hf12_1);have hx12_2:=hcc12 2 _ rfl;(try simp only [show (k88).sz=3 from rfl,Nat.mul_one,Nat.add_zero] at hx12_2);have hf12_2:=hfr12 2;(try simp only [show (k88).sz=3 from rfl,Nat.mul_one,Nat.add_zero] at hf12_2);clear hcl12 hcc12 hfr12 hM12)|((with_reducible refine gate_store (t:=88) (p:=21) rfl ?_);refine store_event (t:=88) (p:=21) (v:=?vo_w13) (w1:=(((w11.setCell ⟨go10,(x4_1:Int).toNat * 3,none⟩ (.string t237)).setCell ⟨go10,(x4_1:Int).toNat * 3+1,none⟩ (.int .i64 t238)).setCell ⟨go10,(x4_1:Int).toNat * 3+2,none⟩ (.int .i64 t239))) ?hg ?ho ?hn ?hr ?_;(case ho=>rfl);(case hg=>rfl);(case hn=>rfl);(case hr=>first|(go_simp;done)|(go_simp;rfl));intro w13 hw;have hg:w11.grownBy w13 (some go10):=(by rw [hw];exact HP12.2);have hp_:Kd.R k88 88 w13 w.heap.size (fun _=>True) (.slice (some ⟨go10,0,none⟩) x3_1.length co10) y240:=(by rw [hw,Ny240.out];exact HP12.1);clear HP12;have n0_:=Aside0.mk (hp_);have n1_:=Aside0.mk ((by rw [hw];exact below_set (below_set (below_set (HB.out) GB10.out) GB10.out) GB10.out:Below w.heap.size w w13));clear HO_3 HB;have HO_3:=n0_;have HB:=n1_;clear n0_ n1_ hg hw hp_))
        go_roundg k1
        case measure=>have:=HK1.out;omega
        case rel=>exact ⟨(y240),(wrap64 (x4_1+1)),qz12,H',⟨by have:=HK1.out;omega⟩,⟨qz74⟩,⟨qz4⟩⟩
       ·rw [if_neg c9] at H
        exact absurd H (by simp)
      ·rw [if_neg c7] at H
       exact absurd H (by simp)
     ·rw [if_neg c6] at H
      have c6b0:decide (x4_1<(l0.length:Int))=false:=decide_eq_false c6
      clear c6
      obtain rfl:=Option.some.inj H
      go_wp2
      go_ret
      exact ⟨_,qz3,qz74,qz4⟩
  ·rw [if_neg c3] at H
   exact absurd H (by simp)
 ·rw [if_neg c2] at H
  exact absurd H (by simp)

end Go.Proofs.YtepkgjcobocbpaaDoor.P
