/- Contracts of functions of the program: each as a Lean function, and that its call does what that says; printed by cprint.py (this session) over print.py of the kit. Conditions: the hypotheses of each theorem. -/
import Derived.Test.YtepkgjcobocbpaaDoorVZ
import Derived.Test.YtepkgjcobocbpaaDoorP0
import Derived.Test.YtepkgjcobocbpaaDoorP6
import Derived.Test.YtepkgjcobocbpaaDoorP11
import Derived.Test.YtepkgjcobocbpaaDoorP12
import Derived.Test.YtepkgjcobocbpaaDoorP13
import Derived.Test.YtepkgjcobocbpaaDoorP14
import Derived.Test.YtepkgjcobocbpaaDoorP17
namespace Go.Proofs.YtepkgjcobocbpaaDoor.P
open Go.RowKit Go.Proofs.YtepkgjcobocbpaaDoorW.PrintWords Go.Proofs.YtepkgjcobocbpaaDoorW.PrintLast Go.Proofs.YtepkgjcobocbpaaDoorW.PrintMore
attribute [local go_sem] max2_int min2_int max_two min_two max_three min_three max_four min_four   -- for this text's walks alone
set_option linter.unusedVariables false
set_option linter.unusedSimpArgs false

/-! ### laws_FnExactPrgNode: function 3 -/
def laws_FnExactPrgNode.f (k:Nat) (l0_0:List (S79)) (l0_1:List (S82)) (l1:List (S61)):Option (Bool):=(laws_szPrgProg.f k l0_0 l0_1 1048576).bind fun t331=>(if t331<0 then (some true) else ((laws_szTrmCellS.f k l1 t331).bind fun t332=>(if t332<0 then (some true) else ((laws_toPrgProg.f k l0_0 l0_1).bind fun bt333=>((laws_toTrmCellS.f k l1).bind fun t339=>((spec_PrgNode.f k bt333.1 bt333.2 t339).bind fun t342=>((laws_toPrgProg.f k l0_0 l0_1).bind fun bt343=>((laws_toTrmCellS.f k l1).bind fun t350=>((impl_PrgNode.f k bt343.1 bt343.2 t350).bind fun t353=>(if t353=t342 then ((laws_toPrgProg.f k l0_0 l0_1).bind fun bt354=>((laws_eqPrgProg.f k bt343.1 bt343.2 bt354.1 bt354.2).bind fun t360=>(if t360=true then ((laws_toTrmCellS.f k l1).bind fun t361=>((laws_eqTrmCellS.f k t350 t361).bind fun t364=>(if t364=true then (some true) else (some false)))) else (some false)))) else (some false)))))))))))
set_option maxHeartbeats 8000000 in
set_option maxRecDepth 100000 in
theorem laws_FnExactPrgNode.calls (k:Nat) (A0_0:Option Addr) (c0_0:Nat) (l0_0:List (S79)) (A0_1:Option Addr) (c0_1:Nat) (l0_1:List (S82)) (A1:Option Addr) (c1:Nat) (l1:List (S61)) (r:Bool) (w:World) (hr0_0:Kd.C k79 w A0_0 l0_0.length l0_0) (hc0_0:l0_0.length≤c0_0) (hr0_1:Kd.C k82 w A0_1 l0_1.length l0_1) (hc0_1:l0_1.length≤c0_1) (hr1:Kd.C k61 w A1 l1.length l1) (hc1:l1.length≤c1) (h:laws_FnExactPrgNode.f k l0_0 l0_1 l1=some r) :
  Calls Tryd.prog 3 #[.agg #[.slice A0_0 l0_0.length c0_0,.slice A0_1 l0_1.length c0_1],.slice A1 l1.length c1] w fun e w'=>e = .returned (.bool r)∧Below w.heap.size w w':=by
 have hu25:=Tryd.underlying25
 have hu33:=Tryd.underlying33
 have HR0_0:=Aside0.mk hr0_0
 have HC0_0:=Aside0.mk hc0_0
 clear hr0_0 hc0_0
 have HR0_1:=Aside0.mk hr0_1
 have HC0_1:=Aside0.mk hc0_1
 clear hr0_1 hc0_1
 have HR1:=Aside0.mk hr1
 have HC1:=Aside0.mk hc1
 clear hr1 hc1
 have HB:=Aside0.mk (Below.refl w.heap.size w)
 have H:((laws_szPrgProg.f k l0_0 l0_1 1048576).bind fun t331=>(if t331<0 then (some true) else ((laws_szTrmCellS.f k l1 t331).bind fun t332=>(if t332<0 then (some true) else ((laws_toPrgProg.f k l0_0 l0_1).bind fun bt333=>((laws_toTrmCellS.f k l1).bind fun t339=>((spec_PrgNode.f k bt333.1 bt333.2 t339).bind fun t342=>((laws_toPrgProg.f k l0_0 l0_1).bind fun bt343=>((laws_toTrmCellS.f k l1).bind fun t350=>((impl_PrgNode.f k bt343.1 bt343.2 t350).bind fun t353=>(if t353=t342 then ((laws_toPrgProg.f k l0_0 l0_1).bind fun bt354=>((laws_eqPrgProg.f k bt343.1 bt343.2 bt354.1 bt354.2).bind fun t360=>(if t360=true then ((laws_toTrmCellS.f k l1).bind fun t361=>((laws_eqTrmCellS.f k t350 t361).bind fun t364=>(if t364=true then (some true) else (some false)))) else (some false)))) else (some false))))))))))))=some r:=h
 clear h
 replace H:=Option.bind_eq_some_iff.mp H
 obtain ⟨t331,A30,H⟩:=H
 try dsimp only at H
 have A3:=Aside0.mk A30
 clear A30
 by_cases c4:t331<0
 ·rw [if_pos c4] at H
  have c4b0:decide (t331<0)=true:=decide_eq_true c4
  clear c4
  obtain rfl:=Option.some.inj H
  go_enter Tryd.func3,Tryd.ntmps3
  go_wp2_with (first|((with_reducible refine gate_dst (N:=2) rfl ?_);refine box_event ?hg (N:=2) ?hd (cs:=#[.slice A0_0 l0_0.length c0_0,.slice A0_1 l0_1.length c0_1]) (t:=25) ?hr ?_;(case hd=>rfl);(case hg=>rfl);(case hr=>first|(go_simp;done)|(go_simp;rfl));intro gb330 hg w5 hbox hb;have n0_:=Aside0.mk (below_step qz1 hb);have n1_:=Aside0.mk (hbox);have n2_:=Aside0.mk ((by rw [hg];exact (below_size qz1):w.heap.size≤gb330));have n3_:=Aside0.mk ((by rw [hg];exact (below_size qz1):w.heap.size≤gb330));clear HB;have HB:=n0_;have BK330:=n1_;have GW330:=n2_;have GE330:=n3_;clear n0_ n1_ n2_ n3_ hb hbox hg;have hcz6_0:w5.cell? ⟨gb330,0,none⟩=some (.slice A0_0 l0_0.length c0_0):=(blk_cell BK330.out 0).trans rfl;have hcz6_1:w5.cell? ⟨gb330,1,none⟩=some (.slice A0_1 l0_1.length c0_1):=(blk_cell BK330.out 1).trans rfl;have hfz6_0:=blk_frozen BK330.out 0;have hfz6_1:=blk_frozen BK330.out 1)|((with_reducible refine gate_callee (f:=6) rfl ?_);refine goesL_ (some 12) rfl rfl Tryd.func6 (by kernel_rfl) rfl #[.agg #[.slice A0_0 l0_0.length c0_0,.slice A0_1 l0_1.length c0_1],.int .i64 1048576] rfl qz2 ?_;(with_reducible refine (laws_szPrgProg.calls k _ _ l0_0 _ _ l0_1 1048576 t331 _ ?side1 ?side2 ?side3 ?side4 A3.out).mono ?_);(case side1=>exact qz8);(case side2=>exact HC0_0.out);(case side3=>exact qz5);(case side4=>exact HC0_1.out);rintro e w7 ⟨rfl,hb⟩;refine ⟨_,rfl,?_⟩;have n0_:=Aside0.mk (blk_below (g:=gb330) (o:=.cells #[.slice A0_0 l0_0.length c0_0,.slice A0_1 l0_1.length c0_1] 25 (0,0)) qz10 hb);have n1_:=Aside0.mk (below_step qz6 hb);clear BK330 HB;have BK330:=n0_;have HB:=n1_;clear n0_ n1_;(try clear hb);(try clear hb2);(try clear hk);(try clear hi)))
  go_ret
  exact ⟨qz3,qz6⟩
 ·rw [if_neg c4] at H
  have c4b0:decide (t331<0)=false:=decide_eq_false c4
  clear c4
  replace H:=Option.bind_eq_some_iff.mp H
  obtain ⟨t332,A80,H⟩:=H
  try dsimp only at H
  have A8:=Aside0.mk A80
  clear A80
  by_cases c9:t332<0
  ·rw [if_pos c9] at H
   have c9b0:decide (t332<0)=true:=decide_eq_true c9
   clear c9
   obtain rfl:=Option.some.inj H
   go_enter Tryd.func3,Tryd.ntmps3
   go_wp2_with (first|((with_reducible refine gate_dst (N:=2) rfl ?_);refine box_event ?hg (N:=2) ?hd (cs:=#[.slice A0_0 l0_0.length c0_0,.slice A0_1 l0_1.length c0_1]) (t:=25) ?hr ?_;(case hd=>rfl);(case hg=>rfl);(case hr=>first|(go_simp;done)|(go_simp;rfl));intro gb330 hg w10 hbox hb;have n0_:=Aside0.mk (below_step qz1 hb);have n1_:=Aside0.mk (hbox);have n2_:=Aside0.mk ((by rw [hg];exact (below_size qz1):w.heap.size≤gb330));have n3_:=Aside0.mk ((by rw [hg];exact (below_size qz1):w.heap.size≤gb330));clear HB;have HB:=n0_;have BK330:=n1_;have GW330:=n2_;have GE330:=n3_;clear n0_ n1_ n2_ n3_ hb hbox hg;have hcz11_0:w10.cell? ⟨gb330,0,none⟩=some (.slice A0_0 l0_0.length c0_0):=(blk_cell BK330.out 0).trans rfl;have hcz11_1:w10.cell? ⟨gb330,1,none⟩=some (.slice A0_1 l0_1.length c0_1):=(blk_cell BK330.out 1).trans rfl;have hfz11_0:=blk_frozen BK330.out 0;have hfz11_1:=blk_frozen BK330.out 1)|((with_reducible refine gate_callee (f:=6) rfl ?_);refine goesL_ (some 12) rfl rfl Tryd.func6 (by kernel_rfl) rfl #[.agg #[.slice A0_0 l0_0.length c0_0,.slice A0_1 l0_1.length c0_1],.int .i64 1048576] rfl qz2 ?_;(with_reducible refine (laws_szPrgProg.calls k _ _ l0_0 _ _ l0_1 1048576 t331 _ ?side1 ?side2 ?side3 ?side4 A3.out).mono ?_);(case side1=>exact qz8);(case side2=>exact HC0_0.out);(case side3=>exact qz5);(case side4=>exact HC0_1.out);rintro e w12 ⟨rfl,hb⟩;refine ⟨_,rfl,?_⟩;have n0_:=Aside0.mk (blk_below (g:=gb330) (o:=.cells #[.slice A0_0 l0_0.length c0_0,.slice A0_1 l0_1.length c0_1] 25 (0,0)) qz10 hb);have n1_:=Aside0.mk (below_step qz6 hb);clear BK330 HB;have BK330:=n0_;have HB:=n1_;clear n0_ n1_;(try clear hb);(try clear hb2);(try clear hk);(try clear hi))|((with_reducible refine gate_callee (f:=7) rfl ?_);refine goesL_ (some 17) rfl rfl Tryd.func7 (by kernel_rfl) rfl #[.slice A1 l1.length c1,.int .i64 t331] rfl qz2 ?_;(with_reducible refine (laws_szTrmCellS.calls k _ _ l1 t331 t332 _ ?side1 ?side2 A8.out).mono ?_);(case side1=>exact qz26);(case side2=>exact HC1.out);rintro e w13 ⟨rfl,hb⟩;refine ⟨_,rfl,?_⟩;have n0_:=Aside0.mk (blk_below (g:=gb330) (o:=.cells #[.slice A0_0 l0_0.length c0_0,.slice A0_1 l0_1.length c0_1] 25 (0,0)) qz10 hb);have n1_:=Aside0.mk (below_step qz6 hb);clear BK330 HB;have BK330:=n0_;have HB:=n1_;clear n0_ n1_;(try clear hb);(try clear hb2);(try clear hk);(try clear hi)))
   go_ret
   exact ⟨qz3,qz6⟩
  ·rw [if_neg c9] at H
   have c9b0:decide (t332<0)=false:=decide_eq_false c9
   clear c9
   replace H:=Option.bind_eq_some_iff.mp H
   obtain ⟨⟨t333,t336⟩,A140,H⟩:=H
   try dsimp only at H
   have A14:=Aside0.mk A140
   clear A140
   replace H:=Option.bind_eq_some_iff.mp H
   obtain ⟨t339,A150,H⟩:=H
   try dsimp only at H
   have A15:=Aside0.mk A150
   clear A150
   replace H:=Option.bind_eq_some_iff.mp H
   obtain ⟨t342,A160,H⟩:=H
   try dsimp only at H
   have A16:=Aside0.mk A160
   clear A160
   replace H:=Option.bind_eq_some_iff.mp H
   obtain ⟨⟨t343,t346⟩,A170,H⟩:=H
   try dsimp only at H
   have A17:=Aside0.mk A170
   clear A170
   replace H:=Option.bind_eq_some_iff.mp H
   obtain ⟨t350,A180,H⟩:=H
   try dsimp only at H
   have A18:=Aside0.mk A180
   clear A180
   replace H:=Option.bind_eq_some_iff.mp H
   obtain ⟨t353,A190,H⟩:=H
   try dsimp only at H
   have A19:=Aside0.mk A190
   clear A190
   by_cases c20:t353=t342
   ·rw [if_pos c20] at H
    have c20b0:(t353 == t342)=true:=beq_iff_eq.mpr c20
    have c20b1:(t353 != t342)=false:=bne_eq_false_iff_eq.mpr c20
    clear c20
    replace H:=Option.bind_eq_some_iff.mp H
    obtain ⟨⟨t354,t357⟩,A210,H⟩:=H
    try dsimp only at H
    have A21:=Aside0.mk A210
    clear A210
    replace H:=Option.bind_eq_some_iff.mp H
    obtain ⟨t360,A220,H⟩:=H
    try dsimp only at H
    have A22:=Aside0.mk A220
    clear A220
    by_cases c23:t360=true
    ·subst c23
     have H1:((laws_toTrmCellS.f k l1).bind fun t361=>((laws_eqTrmCellS.f k t350 t361).bind fun t364=>(if t364=true then (some true) else (some false))))=some r:=qz51
     clear H
     have H:=H1
     clear H1
     replace H:=Option.bind_eq_some_iff.mp H
     obtain ⟨t361,A240,H⟩:=H
     try dsimp only at H
     have A24:=Aside0.mk A240
     clear A240
     replace H:=Option.bind_eq_some_iff.mp H
     obtain ⟨t364,A250,H⟩:=H
     try dsimp only at H
     have A25:=Aside0.mk A250
     clear A250
     by_cases c26:t364=true
     ·subst c26
      have H1:(some true)=some r:=qz51
      clear H
      have H:=H1
      clear H1
      obtain rfl:=Option.some.inj H
      go_enter Tryd.func3,Tryd.ntmps3
      try go_wp2_with (first|((with_reducible refine gate_dst (N:=2) rfl ?_);refine box_event ?hg (N:=2) ?hd (cs:=#[.slice A0_0 l0_0.length c0_0,.slice A0_1 l0_1.length c0_1]) (t:=25) ?hr ?_;(case hd=>rfl);(case hg=>rfl);(case hr=>first|(go_simp;done)|(go_simp;rfl));intro gb330 hg w27 hbox hb;have n0_:=Aside0.mk (below_step qz1 hb);have n1_:=Aside0.mk (hbox);have n2_:=Aside0.mk ((by rw [hg];exact (below_size qz1):w.heap.size≤gb330));have n3_:=Aside0.mk ((by rw [hg];exact (below_size qz1):w.heap.size≤gb330));clear HB;have HB:=n0_;have BK330:=n1_;have GW330:=n2_;have GE330:=n3_;clear n0_ n1_ n2_ n3_ hb hbox hg;have hcz28_0:w27.cell? ⟨gb330,0,none⟩=some (.slice A0_0 l0_0.length c0_0):=(blk_cell BK330.out 0).trans rfl;have hcz28_1:w27.cell? ⟨gb330,1,none⟩=some (.slice A0_1 l0_1.length c0_1):=(blk_cell BK330.out 1).trans rfl;have hfz28_0:=blk_frozen BK330.out 0;have hfz28_1:=blk_frozen BK330.out 1)|((with_reducible refine gate_callee (f:=6) rfl ?_);refine goesL_ (some 12) rfl rfl Tryd.func6 (by kernel_rfl) rfl #[.agg #[.slice A0_0 l0_0.length c0_0,.slice A0_1 l0_1.length c0_1],.int .i64 1048576] rfl qz2 ?_;(with_reducible refine (laws_szPrgProg.calls k _ _ l0_0 _ _ l0_1 1048576 t331 _ ?side1 ?side2 ?side3 ?side4 A3.out).mono ?_);(case side1=>exact qz8);(case side2=>exact HC0_0.out);(case side3=>exact qz5);(case side4=>exact HC0_1.out);rintro e w29 ⟨rfl,hb⟩;refine ⟨_,rfl,?_⟩;have n0_:=Aside0.mk (blk_below (g:=gb330) (o:=.cells #[.slice A0_0 l0_0.length c0_0,.slice A0_1 l0_1.length c0_1] 25 (0,0)) qz10 hb);have n1_:=Aside0.mk (below_step qz6 hb);clear BK330 HB;have BK330:=n0_;have HB:=n1_;clear n0_ n1_;(try clear hb);(try clear hb2);(try clear hk);(try clear hi))|((with_reducible refine gate_callee (f:=7) rfl ?_);refine goesL_ (some 17) rfl rfl Tryd.func7 (by kernel_rfl) rfl #[.slice A1 l1.length c1,.int .i64 t331] rfl qz2 ?_;(with_reducible refine (laws_szTrmCellS.calls k _ _ l1 t331 t332 _ ?side1 ?side2 A8.out).mono ?_);(case side1=>exact qz26);(case side2=>exact HC1.out);rintro e w30 ⟨rfl,hb⟩;refine ⟨_,rfl,?_⟩;have n0_:=Aside0.mk (blk_below (g:=gb330) (o:=.cells #[.slice A0_0 l0_0.length c0_0,.slice A0_1 l0_1.length c0_1] 25 (0,0)) qz10 hb);have n1_:=Aside0.mk (below_step qz6 hb);clear BK330 HB;have BK330:=n0_;have HB:=n1_;clear n0_ n1_;(try clear hb);(try clear hb2);(try clear hk);(try clear hi);have hcz31_0:w30.cell? ⟨gb330,0,none⟩=some (.slice A0_0 l0_0.length c0_0):=(blk_cell BK330.out 0).trans rfl;have hcz31_1:w30.cell? ⟨gb330,1,none⟩=some (.slice A0_1 l0_1.length c0_1):=(blk_cell BK330.out 1).trans rfl;have hfz31_0:=blk_frozen BK330.out 0;have hfz31_1:=blk_frozen BK330.out 1)|((with_reducible refine gate_callee (f:=9) rfl ?_);refine goesL_ (some 21) rfl rfl Tryd.func9 (by kernel_rfl) rfl #[.agg #[.slice A0_0 l0_0.length c0_0,.slice A0_1 l0_1.length c0_1]] rfl qz2 ?_;(with_reducible refine (laws_toPrgProg.calls k _ _ l0_0 _ _ l0_1 t333 t336 _ ?side1 ?side2 ?side3 ?side4 A14.out).mono ?_);(case side1=>exact qz8);(case side2=>exact HC0_0.out);(case side3=>exact qz5);(case side4=>exact HC0_1.out);rintro e w32 ⟨v334,v337,rfl,ho0,ho1,hb⟩;refine ⟨_,rfl,?_⟩;have n0_:=Aside0.mk (Kd.R_lower ho0 (below_size qz6));have n1_:=Aside0.mk (Kd.R_lower ho1 (below_size qz6));have n2_:=Aside0.mk (blk_below (g:=gb330) (o:=.cells #[.slice A0_0 l0_0.length c0_0,.slice A0_1 l0_1.length c0_1] 25 (0,0)) qz10 hb);have n3_:=Aside0.mk (below_step qz6 hb);clear BK330 HB;have HO335:=n0_;have HO338:=n1_;have BK330:=n2_;have HB:=n3_;clear n0_ n1_ n2_ n3_;(try clear hb);(try clear hb2);(try clear hk);(try clear hi);(try clear ho0);(try clear ho1))|((with_reducible refine gate_callee (f:=10) rfl ?_);refine goesL_ (some 23) rfl rfl Tryd.func10 (by kernel_rfl) rfl #[.slice A1 l1.length c1] rfl qz2 ?_;(with_reducible refine (laws_toTrmCellS.calls k _ _ l1 t339 _ ?side1 ?side2 A15.out).mono ?_);(case side1=>exact qz26);(case side2=>exact HC1.out);rintro e w33 ⟨v340,rfl,ho0,hb⟩;refine ⟨_,rfl,?_⟩;have n0_:=Aside0.mk (Kd.R_elder' qz17 (Kd.R_base ho0) hb);have n1_:=Aside0.mk (Kd.R_below qz16 hb);have n2_:=Aside0.mk (Kd.R_lower ho0 (below_size qz6));have n3_:=Aside0.mk (blk_below (g:=gb330) (o:=.cells #[.slice A0_0 l0_0.length c0_0,.slice A0_1 l0_1.length c0_1] 25 (0,0)) qz10 hb);have n4_:=Aside0.mk (below_step qz6 hb);clear HO335 HO338 BK330 HB;have HO335:=n0_;have HO338:=n1_;have HO341:=n2_;have BK330:=n3_;have HB:=n4_;clear n0_ n1_ n2_ n3_ n4_;(try clear hb);(try clear hb2);(try clear hk);(try clear hi);(try clear ho0);obtain ⟨Ao34,co34,eo34⟩:=Kd.R_slice HO335.out;subst eo34;obtain ⟨Ao35,co35,eo35⟩:=Kd.R_slice HO338.out;subst eo35;obtain ⟨Ao36,co36,eo36⟩:=Kd.R_slice HO341.out;subst eo36)|((with_reducible refine gate_callee (f:=8) rfl ?_);refine goesL_ (some 24) rfl rfl Tryd.func8 (by kernel_rfl) rfl #[.agg #[.slice Ao34 t333.length co34,.slice Ao35 t336.length co35],.slice Ao36 t339.length co36] rfl qz2 ?_;(with_reducible refine (spec_PrgNode.calls k _ _ t333 _ _ t336 _ _ t339 t342 _ ?side1 ?side2 ?side3 ?side4 ?side5 ?side6 A16.out).mono ?_);(case side1=>exact qz102);(case side2=>exact (Kd.R_reads' HO335.out).2.1);(case side3=>exact qz101);(case side4=>exact (Kd.R_reads' HO338.out).2.1);(case side5=>exact qz100);(case side6=>exact (Kd.R_reads' HO341.out).2.1);rintro e w37 ⟨rfl,hb⟩;refine ⟨_,rfl,?_⟩;have n0_:=Aside0.mk (Kd.R_below qz17 hb);have n1_:=Aside0.mk (Kd.R_below qz16 hb);have n2_:=Aside0.mk (Kd.R_below qz18 hb);have n3_:=Aside0.mk (blk_below (g:=gb330) (o:=.cells #[.slice A0_0 l0_0.length c0_0,.slice A0_1 l0_1.length c0_1] 25 (0,0)) qz10 hb);have n4_:=Aside0.mk (below_step qz6 hb);clear HO335 HO338 HO341 BK330 HB;have HO335:=n0_;have HO338:=n1_;have HO341:=n2_;have BK330:=n3_;have HB:=n4_;clear n0_ n1_ n2_ n3_ n4_;(try clear hb);(try clear hb2);(try clear hk);(try clear hi);have hcz38_0:w37.cell? ⟨gb330,0,none⟩=some (.slice A0_0 l0_0.length c0_0):=(blk_cell BK330.out 0).trans rfl;have hcz38_1:w37.cell? ⟨gb330,1,none⟩=some (.slice A0_1 l0_1.length c0_1):=(blk_cell BK330.out 1).trans rfl;have hfz38_0:=blk_frozen BK330.out 0;have hfz38_1:=blk_frozen BK330.out 1)|((with_reducible refine gate_callee (f:=9) rfl ?_);refine goesL_ (some 26) rfl rfl Tryd.func9 (by kernel_rfl) rfl #[.agg #[.slice A0_0 l0_0.length c0_0,.slice A0_1 l0_1.length c0_1]] rfl qz2 ?_;(with_reducible refine (laws_toPrgProg.calls k _ _ l0_0 _ _ l0_1 t343 t346 _ ?side1 ?side2 ?side3 ?side4 A17.out).mono ?_);(case side1=>exact qz8);(case side2=>exact HC0_0.out);(case side3=>exact qz5);(case side4=>exact HC0_1.out);rintro e w39 ⟨v344,v347,rfl,ho0,ho1,hb⟩;refine ⟨_,rfl,?_⟩;have n0_:=Aside0.mk (Kd.R_elder' qz17 (Kd.R_base ho0) hb);have n1_:=Aside0.mk (Kd.R_elder' qz16 (Kd.R_base ho1) hb);have n2_:=Aside0.mk (Kd.R_below qz18 hb);have n3_:=Aside0.mk (Kd.R_lower (Kd.R_new' (Kd.R_new' ho0 (Kd.R_lt qz17)) (Kd.R_lt qz18)) (below_size qz6));have n4_:=Aside0.mk (Kd.R_lower (Kd.R_new' ho1 (Kd.R_lt qz16)) (below_size qz6));have n5_:=Aside0.mk (blk_below (g:=gb330) (o:=.cells #[.slice A0_0 l0_0.length c0_0,.slice A0_1 l0_1.length c0_1] 25 (0,0)) qz10 hb);have n6_:=Aside0.mk (below_step qz6 hb);clear HO335 HO338 HO341 BK330 HB;have HO335:=n0_;have HO338:=n1_;have HO341:=n2_;have HO345:=n3_;have HO348:=n4_;have BK330:=n5_;have HB:=n6_;clear n0_ n1_ n2_ n3_ n4_ n5_ n6_;(try clear hb);(try clear hb2);(try clear hk);(try clear hi);(try clear ho0);(try clear ho1))|((with_reducible refine gate_dst (N:=7) rfl ?_);refine box_event ?hg (N:=7) ?hd (cs:=#[.slice none 0 0,.slice none 0 0]) (t:=33) ?hr ?_;(case hd=>rfl);(case hg=>rfl);(case hr=>first|(go_simp;done)|(go_simp;rfl));intro gb349 hg w40 hbox hb;have n0_:=Aside0.mk (Kd.R_below qz17 hb);have n1_:=Aside0.mk (Kd.R_below qz16 hb);have n2_:=Aside0.mk (Kd.R_below qz18 hb);have n3_:=Aside0.mk (Kd.R_below qz37 hb);have n4_:=Aside0.mk (Kd.R_below qz36 hb);have n5_:=Aside0.mk (blk_below (g:=gb330) (o:=.cells #[.slice A0_0 l0_0.length c0_0,.slice A0_1 l0_1.length c0_1] 25 (0,0)) qz10 hb);have n6_:=Aside0.mk (below_step qz6 hb);have n7_:=Aside0.mk (hbox);have n8_:=Aside0.mk ((by rw [hg];exact (below_size qz6):w.heap.size≤gb349));have n9_:=Aside0.mk ((by rw [hg];exact (below_size qz6):w.heap.size≤gb349));have n10_:=Aside0.mk ((by rw [hg];exact Nat.ne_of_lt (blk_lt (g:=gb330) (o:=.cells #[.slice A0_0 l0_0.length c0_0,.slice A0_1 l0_1.length c0_1] 25 (0,0)) qz10):gb330≠gb349));have n11_:=Aside0.mk ((by rw [hg];exact Nat.ne_of_gt (blk_lt (g:=gb330) (o:=.cells #[.slice A0_0 l0_0.length c0_0,.slice A0_1 l0_1.length c0_1] 25 (0,0)) qz10):gb349≠gb330));clear HO335 HO338 HO341 HO345 HO348 BK330 HB;have HO335:=n0_;have HO338:=n1_;have HO341:=n2_;have HO345:=n3_;have HO348:=n4_;have BK330:=n5_;have HB:=n6_;have BK349:=n7_;have GW349:=n8_;have GE349:=n9_;have NB330_349:=n10_;have NB349_330:=n11_;clear n0_ n1_ n2_ n3_ n4_ n5_ n6_ n7_ n8_ n9_ n10_ n11_ hb hbox hg;obtain ⟨Ao41,co41,eo41⟩:=Kd.R_slice HO345.out;subst eo41;have hnb42:=NB349_330.out;have hnc42:=NB330_349.out;have hcz43_0:w40.cell? ⟨gb349,0,none⟩=some (.slice none 0 0):=(blk_cell BK349.out 0).trans rfl;have hcz43_1:w40.cell? ⟨gb349,1,none⟩=some (.slice none 0 0):=(blk_cell BK349.out 1).trans rfl;have hfz43_0:=blk_frozen BK349.out 0;have hfz43_1:=blk_frozen BK349.out 1;obtain ⟨Ao44,co44,eo44⟩:=Kd.R_slice HO348.out;subst eo44)|((with_reducible refine gate_callee (f:=10) rfl ?_);refine goesL_ (some 28) rfl rfl Tryd.func10 (by kernel_rfl) rfl #[.slice A1 l1.length c1] rfl qz2 ?_;(with_reducible refine (laws_toTrmCellS.calls k _ _ l1 t350 _ ?side1 ?side2 A18.out).mono ?_);(case side1=>exact Kd.C_below HR1.out qz9);(case side2=>exact HC1.out);rintro e w45 ⟨v351,rfl,ho0,hb⟩;refine ⟨_,rfl,?_⟩;have n0_:=Aside0.mk (Kd.R_elder' (by (with_reducible repeat (first|apply Kd.R_alloc|apply Kd.R_drewN|apply Kd.R_drew));exact (Kd.R_mono (Kd.R_far (p:=⟨gb349,1,none⟩) (Kd.R_far (p:=⟨gb349,0,none⟩) (Kd.R_types HO335.out BK349.out (by decide)) (fun _ hk=>hk.2) (.slice Ao41 t343.length co41)) (fun _ hk=>hk.2) (.slice Ao44 t346.length co44)) (fun _ h_=>h_.1))) (Kd.R_base ho0) hb);have n1_:=Aside0.mk (Kd.R_below (by (with_reducible repeat (first|apply Kd.R_alloc|apply Kd.R_drewN|apply Kd.R_drew));exact (Kd.R_mono (Kd.R_far (p:=⟨gb349,1,none⟩) (Kd.R_far (p:=⟨gb349,0,none⟩) (Kd.R_types HO338.out BK349.out (by decide)) (fun _ hk=>hk.2) (.slice Ao41 t343.length co41)) (fun _ hk=>hk.2) (.slice Ao44 t346.length co44)) (fun _ h_=>h_.1))) hb);have n2_:=Aside0.mk (Kd.R_elder' qz120 (Kd.R_base ho0) hb);have n3_:=Aside0.mk (Kd.R_elder' (by (with_reducible repeat (first|apply Kd.R_alloc|apply Kd.R_drewN|apply Kd.R_drew));exact (Kd.R_mono (Kd.R_far (p:=⟨gb349,1,none⟩) (Kd.R_far (p:=⟨gb349,0,none⟩) (Kd.R_types HO345.out BK349.out (by decide)) (fun _ hk=>hk.2) (.slice Ao41 t343.length co41)) (fun _ hk=>hk.2) (.slice Ao44 t346.length co44)) (fun _ h_=>h_.1))) (Kd.R_base ho0) hb);have n4_:=Aside0.mk (Kd.R_below (by (with_reducible repeat (first|apply Kd.R_alloc|apply Kd.R_drewN|apply Kd.R_drew));exact (Kd.R_mono (Kd.R_far (p:=⟨gb349,1,none⟩) (Kd.R_far (p:=⟨gb349,0,none⟩) (Kd.R_types HO348.out BK349.out (by decide)) (fun _ hk=>hk.2) (.slice Ao41 t343.length co41)) (fun _ hk=>hk.2) (.slice Ao44 t346.length co44)) (fun _ h_=>h_.1))) hb);have n5_:=Aside0.mk (Kd.R_lower (Kd.R_new' ho0 (Kd.R_lt qz120)) (below_size qz9));have n6_:=Aside0.mk (blk_below (g:=gb330) (o:=.cells #[.slice A0_0 l0_0.length c0_0,.slice A0_1 l0_1.length c0_1] 25 (0,0)) qz62 hb);have n7_:=Aside0.mk (blk_below (g:=gb349) (o:=.cells #[.slice Ao41 t343.length co41,.slice Ao44 t346.length co44] 33 (0,0)) (by (with_reducible repeat (first|refine blk_drewN ?_ _|refine blk_drew ?_|refine blk_alloc ?_ _));refine blk_put (cs:=#[.slice Ao41 t343.length co41,.slice none 0 0]) ?_ 1 _ rfl;(with_reducible repeat (first|refine blk_drewN ?_ _|refine blk_drew ?_|refine blk_alloc ?_ _));refine blk_put (cs:=#[.slice none 0 0,.slice none 0 0]) ?_ 0 _ rfl;(with_reducible repeat (first|refine blk_drewN ?_ _|refine blk_drew ?_|refine blk_alloc ?_ _));exact BK349.out) hb);have n8_:=Aside0.mk (below_step qz9 hb);clear HO335 HO338 HO341 HO345 HO348 BK330 BK349 HB;have HO335:=n0_;have HO338:=n1_;have HO341:=n2_;have HO345:=n3_;have HO348:=n4_;have HO352:=n5_;have BK330:=n6_;have BK349:=n7_;have HB:=n8_;clear n0_ n1_ n2_ n3_ n4_ n5_ n6_ n7_ n8_;(try clear hb);(try clear hb2);(try clear hk);(try clear hi);(try clear ho0);have hcz46_0:w45.cell? ⟨gb349,0,none⟩=some (.slice Ao41 t343.length co41):=(blk_cell BK349.out 0).trans rfl;have hcz46_1:w45.cell? ⟨gb349,1,none⟩=some (.slice Ao44 t346.length co44):=(blk_cell BK349.out 1).trans rfl;have hfz46_0:=blk_frozen BK349.out 0;have hfz46_1:=blk_frozen BK349.out 1;obtain ⟨Ao47,co47,eo47⟩:=Kd.R_slice HO352.out;subst eo47)|((with_reducible refine gate_callee (f:=11) rfl ?_);refine goesL_ (some 31) rfl rfl Tryd.func11 (by kernel_rfl) rfl #[.agg #[.slice Ao41 t343.length co41,.slice Ao44 t346.length co44],.slice Ao47 t350.length co47] rfl qz2 ?_;(with_reducible refine (impl_PrgNode.calls k _ _ t343 _ _ t346 _ _ t350 t353 _ ?side1 ?side2 ?side3 ?side4 ?side5 ?side6 A19.out).mono ?_);(case side1=>exact qz73);(case side2=>exact (Kd.R_reads' HO345.out).2.1);(case side3=>exact qz72);(case side4=>exact (Kd.R_reads' HO348.out).2.1);(case side5=>exact qz82);(case side6=>exact (Kd.R_reads' HO352.out).2.1);rintro e w48 ⟨rfl,hb⟩;refine ⟨_,rfl,?_⟩;have n0_:=Aside0.mk (Kd.R_below qz17 hb);have n1_:=Aside0.mk (Kd.R_below qz16 hb);have n2_:=Aside0.mk (Kd.R_below qz18 hb);have n3_:=Aside0.mk (Kd.R_below qz37 hb);have n4_:=Aside0.mk (Kd.R_below qz36 hb);have n5_:=Aside0.mk (Kd.R_below qz41 hb);have n6_:=Aside0.mk (blk_below (g:=gb330) (o:=.cells #[.slice A0_0 l0_0.length c0_0,.slice A0_1 l0_1.length c0_1] 25 (0,0)) qz10 hb);have n7_:=Aside0.mk (blk_below (g:=gb349) (o:=.cells #[.slice Ao41 t343.length co41,.slice Ao44 t346.length co44] 33 (0,0)) qz47 hb);have n8_:=Aside0.mk (below_step qz9 hb);clear HO335 HO338 HO341 HO345 HO348 HO352 BK330 BK349 HB;have HO335:=n0_;have HO338:=n1_;have HO341:=n2_;have HO345:=n3_;have HO348:=n4_;have HO352:=n5_;have BK330:=n6_;have BK349:=n7_;have HB:=n8_;clear n0_ n1_ n2_ n3_ n4_ n5_ n6_ n7_ n8_;(try clear hb);(try clear hb2);(try clear hk);(try clear hi)))
      have n0_:=Aside0.mk (Kd.R_drew HO335.out)
      have n1_:=Aside0.mk (Kd.R_drew HO338.out)
      have n2_:=Aside0.mk (Kd.R_drew HO341.out)
      have n3_:=Aside0.mk (Kd.R_drew HO345.out)
      have n4_:=Aside0.mk (Kd.R_drew HO348.out)
      have n5_:=Aside0.mk (Kd.R_drew HO352.out)
      have n6_:=Aside0.mk (blk_drew BK330.out)
      have n7_:=Aside0.mk (blk_drew BK349.out)
      have n8_:=Aside0.mk (below_drew1 HB.out)
      clear HO335 HO338 HO341 HO345 HO348 HO352 BK330 BK349 HB
      have HO335:=n0_
      have HO338:=n1_
      have HO341:=n2_
      have HO345:=n3_
      have HO348:=n4_
      have HO352:=n5_
      have BK330:=n6_
      have BK349:=n7_
      have HB:=n8_
      clear n0_ n1_ n2_ n3_ n4_ n5_ n6_ n7_ n8_
      refine start_ (n:=5) (S:=fun w'=>w'.cell? ⟨gb349,0,none⟩=some (.slice Ao41 t343.length co41)∧w'.cell? ⟨gb349,1,none⟩=some (.slice Ao44 t346.length co44)∧w'.cell? ⟨gb330,0,none⟩=some (.slice A0_0 l0_0.length c0_0)∧w'.cell? ⟨gb330,1,none⟩=some (.slice A0_1 l0_1.length c0_1)) (ds:=[]) #[false,false,false,false,false] (by kernel_rfl) rfl rfl ⟨(blk_cell BK349.out 0).trans rfl,(blk_cell BK349.out 1).trans rfl,(blk_cell BK330.out 0).trans rfl,(blk_cell BK330.out 1).trans rfl⟩ (fun hHeld=>?_)
      generalize w48.drew=w49 at HO335 HO338 HO341 HO345 HO348 HO352 BK330 BK349 HB hHeld ⊢
      refine take_ (i:=0) (N:=some 35) (v:=?_) (a':=?_) #[true,false,false,false,false] rfl rfl (by kernel_rfl) (fun _ _ _ h=>h) (Or.inl ⟨by rfl,?_⟩) hHeld ?_ ?_
      rotate_left
      ·rintro w' ⟨s0,s1,s2,s3⟩
       go_simp
       with_reducible rfl
      rotate_left
      ·simp only [Act.put,List.setIfInBounds_toArray,List.set_cons_zero,List.set_cons_succ,i64_w,i32_w]
       rfl
      refine take_ (i:=1) (N:=some 36) (v:=?_) (a':=?_) #[true,true,false,false,false] rfl rfl (by kernel_rfl) (fun _ _ _ h=>h) (Or.inl ⟨by rfl,?_⟩) hHeld ?_ ?_
      rotate_left
      ·rintro w' ⟨s0,s1,s2,s3⟩
       go_simp
       with_reducible rfl
      rotate_left
      ·simp only [Act.put,List.setIfInBounds_toArray,List.set_cons_zero,List.set_cons_succ,i64_w,i32_w]
       rfl
      refine one_ (i:=2) (N:=some 37) #[true,true,true,false,false] rfl rfl (by kernel_rfl) (by decide) (fun K hK=>?_)
      refine goes_ Tryd.func9 (by kernel_rfl) rfl #[.agg #[.slice A0_0 l0_0.length c0_0,.slice A0_1 l0_1.length c0_1]] (by rfl) rfl rfl qz2 ?_
      with_reducible refine (laws_toPrgProg.calls k _ _ l0_0 _ _ l0_1 t354 t357 _ ?side1 ?side2 ?side3 ?side4 A21.out).mono ?_
      (case side1=>exact qz8)
      (case side2=>exact HC0_0.out)
      (case side3=>exact qz5)
      (case side4=>exact HC0_1.out)
      rintro e w50 ⟨v355,v358,rfl,ho0,ho1,hb⟩
      refine ⟨_,rfl,?_⟩
      have n0_:=Aside0.mk (Kd.R_elder' qz17 (Kd.R_base ho0) hb)
      have n1_:=Aside0.mk (Kd.R_elder' qz16 (Kd.R_base ho1) hb)
      have n2_:=Aside0.mk (Kd.R_below qz18 hb)
      have n3_:=Aside0.mk (Kd.R_elder' qz37 (Kd.R_base ho0) hb)
      have n4_:=Aside0.mk (Kd.R_elder' qz36 (Kd.R_base ho1) hb)
      have n5_:=Aside0.mk (Kd.R_below qz41 hb)
      have n6_:=Aside0.mk (Kd.R_lower (Kd.R_new' (Kd.R_new' (Kd.R_new' (Kd.R_new' ho0 (Kd.R_lt qz17)) (Kd.R_lt qz18)) (Kd.R_lt qz37)) (Kd.R_lt qz41)) (below_size qz9))
      have n7_:=Aside0.mk (Kd.R_lower (Kd.R_new' (Kd.R_new' ho1 (Kd.R_lt qz16)) (Kd.R_lt qz36)) (below_size qz9))
      have n8_:=Aside0.mk (blk_below (g:=gb330) (o:=.cells #[.slice A0_0 l0_0.length c0_0,.slice A0_1 l0_1.length c0_1] 25 (0,0)) qz10 hb)
      have n9_:=Aside0.mk (blk_below (g:=gb349) (o:=.cells #[.slice Ao41 t343.length co41,.slice Ao44 t346.length co44] 33 (0,0)) qz47 hb)
      have n10_:=Aside0.mk (below_step qz9 hb)
      clear HO335 HO338 HO341 HO345 HO348 HO352 BK330 BK349 HB
      have HO335:=n0_
      have HO338:=n1_
      have HO341:=n2_
      have HO345:=n3_
      have HO348:=n4_
      have HO352:=n5_
      have HO356:=n6_
      have HO359:=n7_
      have BK330:=n8_
      have BK349:=n9_
      have HB:=n10_
      clear n0_ n1_ n2_ n3_ n4_ n5_ n6_ n7_ n8_ n9_ n10_
      (try clear hb)
      (try clear hb2)
      (try clear hk)
      (try clear hi)
      (try clear ho0)
      (try clear ho1)
      obtain ⟨Ao51,co51,eo51⟩:=Kd.R_slice HO356.out
      (first|subst eo51|(injection eo51 with f1_ f2_ f3_;have f4_:=f1_.symm;have f5_:=f3_.symm;clear f1_ f2_ f3_;subst f4_;subst f5_))
      obtain ⟨Ao52,co52,eo52⟩:=Kd.R_slice HO359.out
      (first|subst eo52|(injection eo52 with f1_ f2_ f3_;have f4_:=f1_.symm;have f5_:=f3_.symm;clear f1_ f2_ f3_;subst f4_;subst f5_))
      refine hK.out _ _ ⟨(blk_cell BK349.out 0).trans rfl,(blk_cell BK349.out 1).trans rfl,(blk_cell BK330.out 0).trans rfl,(blk_cell BK330.out 1).trans rfl⟩ (fun hHeld=>?_)
      clear hK K
      refine norm_ (a':=?_) ?_ ?_
      rotate_left
      ·show Act.put _ (some 37) _=_
       simp only [Act.put,List.setIfInBounds_toArray,List.set_cons_zero,List.set_cons_succ,i64_w,i32_w]
       rfl
      refine one_ (i:=3) (N:=some 38) #[true,true,true,true,false] rfl rfl (by kernel_rfl) (by decide) (fun K hK=>?_)
      refine goes_ Tryd.func12 (by kernel_rfl) rfl #[.agg #[.slice Ao41 t343.length co41,.slice Ao44 t346.length co44],.agg #[.slice Ao51 t354.length co51,.slice Ao52 t357.length co52]] (by rfl) rfl rfl qz2 ?_
      with_reducible refine (laws_eqPrgProg.calls k _ _ t343 _ _ t346 _ _ t354 _ _ t357 true _ ?side1 ?side2 ?side3 ?side4 ?side5 ?side6 ?side7 ?side8 A22.out).mono ?_
      (case side1=>exact qz73)
      (case side2=>exact (Kd.R_reads' HO345.out).2.1)
      (case side3=>exact qz72)
      (case side4=>exact (Kd.R_reads' HO348.out).2.1)
      (case side5=>exact qz125)
      (case side6=>exact (Kd.R_reads' HO356.out).2.1)
      (case side7=>exact qz124)
      (case side8=>exact (Kd.R_reads' HO359.out).2.1)
      rintro e w53 ⟨rfl,hb⟩
      refine ⟨_,rfl,?_⟩
      have n0_:=Aside0.mk (Kd.R_below qz17 hb)
      have n1_:=Aside0.mk (Kd.R_below qz16 hb)
      have n2_:=Aside0.mk (Kd.R_below qz18 hb)
      have n3_:=Aside0.mk (Kd.R_below qz37 hb)
      have n4_:=Aside0.mk (Kd.R_below qz36 hb)
      have n5_:=Aside0.mk (Kd.R_below qz41 hb)
      have n6_:=Aside0.mk (Kd.R_below qz88 hb)
      have n7_:=Aside0.mk (Kd.R_below qz87 hb)
      have n8_:=Aside0.mk (blk_below (g:=gb330) (o:=.cells #[.slice A0_0 l0_0.length c0_0,.slice A0_1 l0_1.length c0_1] 25 (0,0)) qz10 hb)
      have n9_:=Aside0.mk (blk_below (g:=gb349) (o:=.cells #[.slice Ao41 t343.length co41,.slice Ao44 t346.length co44] 33 (0,0)) qz47 hb)
      have n10_:=Aside0.mk (below_step qz9 hb)
      clear HO335 HO338 HO341 HO345 HO348 HO352 HO356 HO359 BK330 BK349 HB
      have HO335:=n0_
      have HO338:=n1_
      have HO341:=n2_
      have HO345:=n3_
      have HO348:=n4_
      have HO352:=n5_
      have HO356:=n6_
      have HO359:=n7_
      have BK330:=n8_
      have BK349:=n9_
      have HB:=n10_
      clear n0_ n1_ n2_ n3_ n4_ n5_ n6_ n7_ n8_ n9_ n10_
      (try clear hb)
      (try clear hb2)
      (try clear hk)
      (try clear hi)
      refine hK.out _ _ ⟨(blk_cell BK349.out 0).trans rfl,(blk_cell BK349.out 1).trans rfl,(blk_cell BK330.out 0).trans rfl,(blk_cell BK330.out 1).trans rfl⟩ (fun hHeld=>?_)
      clear hK K
      refine norm_ (a':=?_) ?_ ?_
      rotate_left
      ·show Act.put _ (some 38) _=_
       simp only [Act.put,List.setIfInBounds_toArray,List.set_cons_zero,List.set_cons_succ,i64_w,i32_w]
       rfl
      refine pure_ (i:=4) (N:=some 39) (v:=?_) (a':=?_) #[true,true,true,true,true] rfl rfl (by kernel_rfl) (fun _ _ _ h=>h) (Or.inl ⟨by rfl,?_⟩) ?_ ?_
      rotate_left
      ·intro w'
       go_simp
       with_reducible rfl
      rotate_left
      ·simp only [Act.put,List.setIfInBounds_toArray,List.set_cons_zero,List.set_cons_succ,i64_w,i32_w]
       rfl
      refine done_ (by kernel_rfl) ?_
      try go_wp2_with (first|((with_reducible refine gate_callee (f:=10) rfl ?_);refine goesL_ (some 42) rfl rfl Tryd.func10 (by kernel_rfl) rfl #[.slice A1 l1.length c1] rfl qz2 ?_;(with_reducible refine (laws_toTrmCellS.calls k _ _ l1 t361 _ ?side1 ?side2 A24.out).mono ?_);(case side1=>exact qz26);(case side2=>exact HC1.out);rintro e w54 ⟨v362,rfl,ho0,hb⟩;refine ⟨_,rfl,?_⟩;have n0_:=Aside0.mk (Kd.R_elder' qz17 (Kd.R_base ho0) hb);have n1_:=Aside0.mk (Kd.R_below qz16 hb);have n2_:=Aside0.mk (Kd.R_elder' qz18 (Kd.R_base ho0) hb);have n3_:=Aside0.mk (Kd.R_elder' qz37 (Kd.R_base ho0) hb);have n4_:=Aside0.mk (Kd.R_below qz36 hb);have n5_:=Aside0.mk (Kd.R_elder' qz41 (Kd.R_base ho0) hb);have n6_:=Aside0.mk (Kd.R_elder' qz88 (Kd.R_base ho0) hb);have n7_:=Aside0.mk (Kd.R_below qz87 hb);have n8_:=Aside0.mk (Kd.R_lower (Kd.R_new' (Kd.R_new' ho0 (Kd.R_lt qz18)) (Kd.R_lt qz41)) (below_size qz9));have n9_:=Aside0.mk (blk_below (g:=gb330) (o:=.cells #[.slice A0_0 l0_0.length c0_0,.slice A0_1 l0_1.length c0_1] 25 (0,0)) qz10 hb);have n10_:=Aside0.mk (blk_below (g:=gb349) (o:=.cells #[.slice Ao41 t343.length co41,.slice Ao44 t346.length co44] 33 (0,0)) qz47 hb);have n11_:=Aside0.mk (below_step qz9 hb);clear HO335 HO338 HO341 HO345 HO348 HO352 HO356 HO359 BK330 BK349 HB;have HO335:=n0_;have HO338:=n1_;have HO341:=n2_;have HO345:=n3_;have HO348:=n4_;have HO352:=n5_;have HO356:=n6_;have HO359:=n7_;have HO363:=n8_;have BK330:=n9_;have BK349:=n10_;have HB:=n11_;clear n0_ n1_ n2_ n3_ n4_ n5_ n6_ n7_ n8_ n9_ n10_ n11_;(try clear hb);(try clear hb2);(try clear hk);(try clear hi);(try clear ho0);obtain ⟨Ao55,co55,eo55⟩:=Kd.R_slice HO363.out;subst eo55)|((with_reducible refine gate_callee (f:=13) rfl ?_);refine goesL_ (some 43) rfl rfl Tryd.func13 (by kernel_rfl) rfl #[.slice Ao47 t350.length co47,.slice Ao55 t361.length co55] rfl qz2 ?_;(with_reducible refine (laws_eqTrmCellS.calls k _ _ t350 _ _ t361 true _ ?side1 ?side2 ?side3 ?side4 A25.out).mono ?_);(case side1=>exact qz82);(case side2=>exact (Kd.R_reads' HO352.out).2.1);(case side3=>exact qz171);(case side4=>exact (Kd.R_reads' HO363.out).2.1);rintro e w56 ⟨rfl,hb⟩;refine ⟨_,rfl,?_⟩;have n0_:=Aside0.mk (Kd.R_below qz17 hb);have n1_:=Aside0.mk (Kd.R_below qz16 hb);have n2_:=Aside0.mk (Kd.R_below qz18 hb);have n3_:=Aside0.mk (Kd.R_below qz37 hb);have n4_:=Aside0.mk (Kd.R_below qz36 hb);have n5_:=Aside0.mk (Kd.R_below qz41 hb);have n6_:=Aside0.mk (Kd.R_below qz88 hb);have n7_:=Aside0.mk (Kd.R_below qz87 hb);have n8_:=Aside0.mk (Kd.R_below (by (with_reducible repeat (first|apply Kd.R_alloc|apply Kd.R_drewN|apply Kd.R_drew));exact HO363.out) hb);have n9_:=Aside0.mk (blk_below (g:=gb330) (o:=.cells #[.slice A0_0 l0_0.length c0_0,.slice A0_1 l0_1.length c0_1] 25 (0,0)) qz10 hb);have n10_:=Aside0.mk (blk_below (g:=gb349) (o:=.cells #[.slice Ao41 t343.length co41,.slice Ao44 t346.length co44] 33 (0,0)) qz47 hb);have n11_:=Aside0.mk (below_step qz9 hb);clear HO335 HO338 HO341 HO345 HO348 HO352 HO356 HO359 HO363 BK330 BK349 HB;have HO335:=n0_;have HO338:=n1_;have HO341:=n2_;have HO345:=n3_;have HO348:=n4_;have HO352:=n5_;have HO356:=n6_;have HO359:=n7_;have HO363:=n8_;have BK330:=n9_;have BK349:=n10_;have HB:=n11_;clear n0_ n1_ n2_ n3_ n4_ n5_ n6_ n7_ n8_ n9_ n10_ n11_;(try clear hb);(try clear hb2);(try clear hk);(try clear hi)))
      go_ret
      exact ⟨qz3,qz9⟩
     ·replace c26:=Bool.eq_false_iff.mpr c26
      subst c26
      have H1:(some false)=some r:=qz23
      clear H
      have H:=H1
      clear H1
      obtain rfl:=Option.some.inj H
      go_enter Tryd.func3,Tryd.ntmps3
      try go_wp2_with (first|((with_reducible refine gate_dst (N:=2) rfl ?_);refine box_event ?hg (N:=2) ?hd (cs:=#[.slice A0_0 l0_0.length c0_0,.slice A0_1 l0_1.length c0_1]) (t:=25) ?hr ?_;(case hd=>rfl);(case hg=>rfl);(case hr=>first|(go_simp;done)|(go_simp;rfl));intro gb330 hg w57 hbox hb;have n0_:=Aside0.mk (below_step qz1 hb);have n1_:=Aside0.mk (hbox);have n2_:=Aside0.mk ((by rw [hg];exact (below_size qz1):w.heap.size≤gb330));have n3_:=Aside0.mk ((by rw [hg];exact (below_size qz1):w.heap.size≤gb330));clear HB;have HB:=n0_;have BK330:=n1_;have GW330:=n2_;have GE330:=n3_;clear n0_ n1_ n2_ n3_ hb hbox hg;have hcz58_0:w57.cell? ⟨gb330,0,none⟩=some (.slice A0_0 l0_0.length c0_0):=(blk_cell BK330.out 0).trans rfl;have hcz58_1:w57.cell? ⟨gb330,1,none⟩=some (.slice A0_1 l0_1.length c0_1):=(blk_cell BK330.out 1).trans rfl;have hfz58_0:=blk_frozen BK330.out 0;have hfz58_1:=blk_frozen BK330.out 1)|((with_reducible refine gate_callee (f:=6) rfl ?_);refine goesL_ (some 12) rfl rfl Tryd.func6 (by kernel_rfl) rfl #[.agg #[.slice A0_0 l0_0.length c0_0,.slice A0_1 l0_1.length c0_1],.int .i64 1048576] rfl qz2 ?_;(with_reducible refine (laws_szPrgProg.calls k _ _ l0_0 _ _ l0_1 1048576 t331 _ ?side1 ?side2 ?side3 ?side4 A3.out).mono ?_);(case side1=>exact qz8);(case side2=>exact HC0_0.out);(case side3=>exact qz5);(case side4=>exact HC0_1.out);rintro e w59 ⟨rfl,hb⟩;refine ⟨_,rfl,?_⟩;have n0_:=Aside0.mk (blk_below (g:=gb330) (o:=.cells #[.slice A0_0 l0_0.length c0_0,.slice A0_1 l0_1.length c0_1] 25 (0,0)) qz10 hb);have n1_:=Aside0.mk (below_step qz6 hb);clear BK330 HB;have BK330:=n0_;have HB:=n1_;clear n0_ n1_;(try clear hb);(try clear hb2);(try clear hk);(try clear hi))|((with_reducible refine gate_callee (f:=7) rfl ?_);refine goesL_ (some 17) rfl rfl Tryd.func7 (by kernel_rfl) rfl #[.slice A1 l1.length c1,.int .i64 t331] rfl qz2 ?_;(with_reducible refine (laws_szTrmCellS.calls k _ _ l1 t331 t332 _ ?side1 ?side2 A8.out).mono ?_);(case side1=>exact qz26);(case side2=>exact HC1.out);rintro e w60 ⟨rfl,hb⟩;refine ⟨_,rfl,?_⟩;have n0_:=Aside0.mk (blk_below (g:=gb330) (o:=.cells #[.slice A0_0 l0_0.length c0_0,.slice A0_1 l0_1.length c0_1] 25 (0,0)) qz10 hb);have n1_:=Aside0.mk (below_step qz6 hb);clear BK330 HB;have BK330:=n0_;have HB:=n1_;clear n0_ n1_;(try clear hb);(try clear hb2);(try clear hk);(try clear hi);have hcz61_0:w60.cell? ⟨gb330,0,none⟩=some (.slice A0_0 l0_0.length c0_0):=(blk_cell BK330.out 0).trans rfl;have hcz61_1:w60.cell? ⟨gb330,1,none⟩=some (.slice A0_1 l0_1.length c0_1):=(blk_cell BK330.out 1).trans rfl;have hfz61_0:=blk_frozen BK330.out 0;have hfz61_1:=blk_frozen BK330.out 1)|((with_reducible refine gate_callee (f:=9) rfl ?_);refine goesL_ (some 21) rfl rfl Tryd.func9 (by kernel_rfl) rfl #[.agg #[.slice A0_0 l0_0.length c0_0,.slice A0_1 l0_1.length c0_1]] rfl qz2 ?_;(with_reducible refine (laws_toPrgProg.calls k _ _ l0_0 _ _ l0_1 t333 t336 _ ?side1 ?side2 ?side3 ?side4 A14.out).mono ?_);(case side1=>exact qz8);(case side2=>exact HC0_0.out);(case side3=>exact qz5);(case side4=>exact HC0_1.out);rintro e w62 ⟨v334,v337,rfl,ho0,ho1,hb⟩;refine ⟨_,rfl,?_⟩;have n0_:=Aside0.mk (Kd.R_lower ho0 (below_size qz6));have n1_:=Aside0.mk (Kd.R_lower ho1 (below_size qz6));have n2_:=Aside0.mk (blk_below (g:=gb330) (o:=.cells #[.slice A0_0 l0_0.length c0_0,.slice A0_1 l0_1.length c0_1] 25 (0,0)) qz10 hb);have n3_:=Aside0.mk (below_step qz6 hb);clear BK330 HB;have HO335:=n0_;have HO338:=n1_;have BK330:=n2_;have HB:=n3_;clear n0_ n1_ n2_ n3_;(try clear hb);(try clear hb2);(try clear hk);(try clear hi);(try clear ho0);(try clear ho1))|((with_reducible refine gate_callee (f:=10) rfl ?_);refine goesL_ (some 23) rfl rfl Tryd.func10 (by kernel_rfl) rfl #[.slice A1 l1.length c1] rfl qz2 ?_;(with_reducible refine (laws_toTrmCellS.calls k _ _ l1 t339 _ ?side1 ?side2 A15.out).mono ?_);(case side1=>exact qz26);(case side2=>exact HC1.out);rintro e w63 ⟨v340,rfl,ho0,hb⟩;refine ⟨_,rfl,?_⟩;have n0_:=Aside0.mk (Kd.R_elder' qz17 (Kd.R_base ho0) hb);have n1_:=Aside0.mk (Kd.R_below qz16 hb);have n2_:=Aside0.mk (Kd.R_lower ho0 (below_size qz6));have n3_:=Aside0.mk (blk_below (g:=gb330) (o:=.cells #[.slice A0_0 l0_0.length c0_0,.slice A0_1 l0_1.length c0_1] 25 (0,0)) qz10 hb);have n4_:=Aside0.mk (below_step qz6 hb);clear HO335 HO338 BK330 HB;have HO335:=n0_;have HO338:=n1_;have HO341:=n2_;have BK330:=n3_;have HB:=n4_;clear n0_ n1_ n2_ n3_ n4_;(try clear hb);(try clear hb2);(try clear hk);(try clear hi);(try clear ho0);obtain ⟨Ao64,co64,eo64⟩:=Kd.R_slice HO335.out;subst eo64;obtain ⟨Ao65,co65,eo65⟩:=Kd.R_slice HO338.out;subst eo65;obtain ⟨Ao66,co66,eo66⟩:=Kd.R_slice HO341.out;subst eo66)|((with_reducible refine gate_callee (f:=8) rfl ?_);refine goesL_ (some 24) rfl rfl Tryd.func8 (by kernel_rfl) rfl #[.agg #[.slice Ao64 t333.length co64,.slice Ao65 t336.length co65],.slice Ao66 t339.length co66] rfl qz2 ?_;(with_reducible refine (spec_PrgNode.calls k _ _ t333 _ _ t336 _ _ t339 t342 _ ?side1 ?side2 ?side3 ?side4 ?side5 ?side6 A16.out).mono ?_);(case side1=>exact qz102);(case side2=>exact (Kd.R_reads' HO335.out).2.1);(case side3=>exact qz101);(case side4=>exact (Kd.R_reads' HO338.out).2.1);(case side5=>exact qz100);(case side6=>exact (Kd.R_reads' HO341.out).2.1);rintro e w67 ⟨rfl,hb⟩;refine ⟨_,rfl,?_⟩;have n0_:=Aside0.mk (Kd.R_below qz17 hb);have n1_:=Aside0.mk (Kd.R_below qz16 hb);have n2_:=Aside0.mk (Kd.R_below qz18 hb);have n3_:=Aside0.mk (blk_below (g:=gb330) (o:=.cells #[.slice A0_0 l0_0.length c0_0,.slice A0_1 l0_1.length c0_1] 25 (0,0)) qz10 hb);have n4_:=Aside0.mk (below_step qz6 hb);clear HO335 HO338 HO341 BK330 HB;have HO335:=n0_;have HO338:=n1_;have HO341:=n2_;have BK330:=n3_;have HB:=n4_;clear n0_ n1_ n2_ n3_ n4_;(try clear hb);(try clear hb2);(try clear hk);(try clear hi);have hcz68_0:w67.cell? ⟨gb330,0,none⟩=some (.slice A0_0 l0_0.length c0_0):=(blk_cell BK330.out 0).trans rfl;have hcz68_1:w67.cell? ⟨gb330,1,none⟩=some (.slice A0_1 l0_1.length c0_1):=(blk_cell BK330.out 1).trans rfl;have hfz68_0:=blk_frozen BK330.out 0;have hfz68_1:=blk_frozen BK330.out 1)|((with_reducible refine gate_callee (f:=9) rfl ?_);refine goesL_ (some 26) rfl rfl Tryd.func9 (by kernel_rfl) rfl #[.agg #[.slice A0_0 l0_0.length c0_0,.slice A0_1 l0_1.length c0_1]] rfl qz2 ?_;(with_reducible refine (laws_toPrgProg.calls k _ _ l0_0 _ _ l0_1 t343 t346 _ ?side1 ?side2 ?side3 ?side4 A17.out).mono ?_);(case side1=>exact qz8);(case side2=>exact HC0_0.out);(case side3=>exact qz5);(case side4=>exact HC0_1.out);rintro e w69 ⟨v344,v347,rfl,ho0,ho1,hb⟩;refine ⟨_,rfl,?_⟩;have n0_:=Aside0.mk (Kd.R_elder' qz17 (Kd.R_base ho0) hb);have n1_:=Aside0.mk (Kd.R_elder' qz16 (Kd.R_base ho1) hb);have n2_:=Aside0.mk (Kd.R_below qz18 hb);have n3_:=Aside0.mk (Kd.R_lower (Kd.R_new' (Kd.R_new' ho0 (Kd.R_lt qz17)) (Kd.R_lt qz18)) (below_size qz6));have n4_:=Aside0.mk (Kd.R_lower (Kd.R_new' ho1 (Kd.R_lt qz16)) (below_size qz6));have n5_:=Aside0.mk (blk_below (g:=gb330) (o:=.cells #[.slice A0_0 l0_0.length c0_0,.slice A0_1 l0_1.length c0_1] 25 (0,0)) qz10 hb);have n6_:=Aside0.mk (below_step qz6 hb);clear HO335 HO338 HO341 BK330 HB;have HO335:=n0_;have HO338:=n1_;have HO341:=n2_;have HO345:=n3_;have HO348:=n4_;have BK330:=n5_;have HB:=n6_;clear n0_ n1_ n2_ n3_ n4_ n5_ n6_;(try clear hb);(try clear hb2);(try clear hk);(try clear hi);(try clear ho0);(try clear ho1))|((with_reducible refine gate_dst (N:=7) rfl ?_);refine box_event ?hg (N:=7) ?hd (cs:=#[.slice none 0 0,.slice none 0 0]) (t:=33) ?hr ?_;(case hd=>rfl);(case hg=>rfl);(case hr=>first|(go_simp;done)|(go_simp;rfl));intro gb349 hg w70 hbox hb;have n0_:=Aside0.mk (Kd.R_below qz17 hb);have n1_:=Aside0.mk (Kd.R_below qz16 hb);have n2_:=Aside0.mk (Kd.R_below qz18 hb);have n3_:=Aside0.mk (Kd.R_below qz37 hb);have n4_:=Aside0.mk (Kd.R_below qz36 hb);have n5_:=Aside0.mk (blk_below (g:=gb330) (o:=.cells #[.slice A0_0 l0_0.length c0_0,.slice A0_1 l0_1.length c0_1] 25 (0,0)) qz10 hb);have n6_:=Aside0.mk (below_step qz6 hb);have n7_:=Aside0.mk (hbox);have n8_:=Aside0.mk ((by rw [hg];exact (below_size qz6):w.heap.size≤gb349));have n9_:=Aside0.mk ((by rw [hg];exact (below_size qz6):w.heap.size≤gb349));have n10_:=Aside0.mk ((by rw [hg];exact Nat.ne_of_lt (blk_lt (g:=gb330) (o:=.cells #[.slice A0_0 l0_0.length c0_0,.slice A0_1 l0_1.length c0_1] 25 (0,0)) qz10):gb330≠gb349));have n11_:=Aside0.mk ((by rw [hg];exact Nat.ne_of_gt (blk_lt (g:=gb330) (o:=.cells #[.slice A0_0 l0_0.length c0_0,.slice A0_1 l0_1.length c0_1] 25 (0,0)) qz10):gb349≠gb330));clear HO335 HO338 HO341 HO345 HO348 BK330 HB;have HO335:=n0_;have HO338:=n1_;have HO341:=n2_;have HO345:=n3_;have HO348:=n4_;have BK330:=n5_;have HB:=n6_;have BK349:=n7_;have GW349:=n8_;have GE349:=n9_;have NB330_349:=n10_;have NB349_330:=n11_;clear n0_ n1_ n2_ n3_ n4_ n5_ n6_ n7_ n8_ n9_ n10_ n11_ hb hbox hg;obtain ⟨Ao71,co71,eo71⟩:=Kd.R_slice HO345.out;subst eo71;have hnb72:=NB349_330.out;have hnc72:=NB330_349.out;have hcz73_0:w70.cell? ⟨gb349,0,none⟩=some (.slice none 0 0):=(blk_cell BK349.out 0).trans rfl;have hcz73_1:w70.cell? ⟨gb349,1,none⟩=some (.slice none 0 0):=(blk_cell BK349.out 1).trans rfl;have hfz73_0:=blk_frozen BK349.out 0;have hfz73_1:=blk_frozen BK349.out 1;obtain ⟨Ao74,co74,eo74⟩:=Kd.R_slice HO348.out;subst eo74)|((with_reducible refine gate_callee (f:=10) rfl ?_);refine goesL_ (some 28) rfl rfl Tryd.func10 (by kernel_rfl) rfl #[.slice A1 l1.length c1] rfl qz2 ?_;(with_reducible refine (laws_toTrmCellS.calls k _ _ l1 t350 _ ?side1 ?side2 A18.out).mono ?_);(case side1=>exact Kd.C_below HR1.out qz9);(case side2=>exact HC1.out);rintro e w75 ⟨v351,rfl,ho0,hb⟩;refine ⟨_,rfl,?_⟩;have n0_:=Aside0.mk (Kd.R_elder' (by (with_reducible repeat (first|apply Kd.R_alloc|apply Kd.R_drewN|apply Kd.R_drew));exact (Kd.R_mono (Kd.R_far (p:=⟨gb349,1,none⟩) (Kd.R_far (p:=⟨gb349,0,none⟩) (Kd.R_types HO335.out BK349.out (by decide)) (fun _ hk=>hk.2) (.slice Ao71 t343.length co71)) (fun _ hk=>hk.2) (.slice Ao74 t346.length co74)) (fun _ h_=>h_.1))) (Kd.R_base ho0) hb);have n1_:=Aside0.mk (Kd.R_below (by (with_reducible repeat (first|apply Kd.R_alloc|apply Kd.R_drewN|apply Kd.R_drew));exact (Kd.R_mono (Kd.R_far (p:=⟨gb349,1,none⟩) (Kd.R_far (p:=⟨gb349,0,none⟩) (Kd.R_types HO338.out BK349.out (by decide)) (fun _ hk=>hk.2) (.slice Ao71 t343.length co71)) (fun _ hk=>hk.2) (.slice Ao74 t346.length co74)) (fun _ h_=>h_.1))) hb);have n2_:=Aside0.mk (Kd.R_elder' qz119 (Kd.R_base ho0) hb);have n3_:=Aside0.mk (Kd.R_elder' (by (with_reducible repeat (first|apply Kd.R_alloc|apply Kd.R_drewN|apply Kd.R_drew));exact (Kd.R_mono (Kd.R_far (p:=⟨gb349,1,none⟩) (Kd.R_far (p:=⟨gb349,0,none⟩) (Kd.R_types HO345.out BK349.out (by decide)) (fun _ hk=>hk.2) (.slice Ao71 t343.length co71)) (fun _ hk=>hk.2) (.slice Ao74 t346.length co74)) (fun _ h_=>h_.1))) (Kd.R_base ho0) hb);have n4_:=Aside0.mk (Kd.R_below (by (with_reducible repeat (first|apply Kd.R_alloc|apply Kd.R_drewN|apply Kd.R_drew));exact (Kd.R_mono (Kd.R_far (p:=⟨gb349,1,none⟩) (Kd.R_far (p:=⟨gb349,0,none⟩) (Kd.R_types HO348.out BK349.out (by decide)) (fun _ hk=>hk.2) (.slice Ao71 t343.length co71)) (fun _ hk=>hk.2) (.slice Ao74 t346.length co74)) (fun _ h_=>h_.1))) hb);have n5_:=Aside0.mk (Kd.R_lower (Kd.R_new' ho0 (Kd.R_lt qz119)) (below_size qz9));have n6_:=Aside0.mk (blk_below (g:=gb330) (o:=.cells #[.slice A0_0 l0_0.length c0_0,.slice A0_1 l0_1.length c0_1] 25 (0,0)) qz62 hb);have n7_:=Aside0.mk (blk_below (g:=gb349) (o:=.cells #[.slice Ao71 t343.length co71,.slice Ao74 t346.length co74] 33 (0,0)) (by (with_reducible repeat (first|refine blk_drewN ?_ _|refine blk_drew ?_|refine blk_alloc ?_ _));refine blk_put (cs:=#[.slice Ao71 t343.length co71,.slice none 0 0]) ?_ 1 _ rfl;(with_reducible repeat (first|refine blk_drewN ?_ _|refine blk_drew ?_|refine blk_alloc ?_ _));refine blk_put (cs:=#[.slice none 0 0,.slice none 0 0]) ?_ 0 _ rfl;(with_reducible repeat (first|refine blk_drewN ?_ _|refine blk_drew ?_|refine blk_alloc ?_ _));exact BK349.out) hb);have n8_:=Aside0.mk (below_step qz9 hb);clear HO335 HO338 HO341 HO345 HO348 BK330 BK349 HB;have HO335:=n0_;have HO338:=n1_;have HO341:=n2_;have HO345:=n3_;have HO348:=n4_;have HO352:=n5_;have BK330:=n6_;have BK349:=n7_;have HB:=n8_;clear n0_ n1_ n2_ n3_ n4_ n5_ n6_ n7_ n8_;(try clear hb);(try clear hb2);(try clear hk);(try clear hi);(try clear ho0);have hcz76_0:w75.cell? ⟨gb349,0,none⟩=some (.slice Ao71 t343.length co71):=(blk_cell BK349.out 0).trans rfl;have hcz76_1:w75.cell? ⟨gb349,1,none⟩=some (.slice Ao74 t346.length co74):=(blk_cell BK349.out 1).trans rfl;have hfz76_0:=blk_frozen BK349.out 0;have hfz76_1:=blk_frozen BK349.out 1;obtain ⟨Ao77,co77,eo77⟩:=Kd.R_slice HO352.out;subst eo77)|((with_reducible refine gate_callee (f:=11) rfl ?_);refine goesL_ (some 31) rfl rfl Tryd.func11 (by kernel_rfl) rfl #[.agg #[.slice Ao71 t343.length co71,.slice Ao74 t346.length co74],.slice Ao77 t350.length co77] rfl qz2 ?_;(with_reducible refine (impl_PrgNode.calls k _ _ t343 _ _ t346 _ _ t350 t353 _ ?side1 ?side2 ?side3 ?side4 ?side5 ?side6 A19.out).mono ?_);(case side1=>exact qz73);(case side2=>exact (Kd.R_reads' HO345.out).2.1);(case side3=>exact qz72);(case side4=>exact (Kd.R_reads' HO348.out).2.1);(case side5=>exact qz82);(case side6=>exact (Kd.R_reads' HO352.out).2.1);rintro e w78 ⟨rfl,hb⟩;refine ⟨_,rfl,?_⟩;have n0_:=Aside0.mk (Kd.R_below qz17 hb);have n1_:=Aside0.mk (Kd.R_below qz16 hb);have n2_:=Aside0.mk (Kd.R_below qz18 hb);have n3_:=Aside0.mk (Kd.R_below qz37 hb);have n4_:=Aside0.mk (Kd.R_below qz36 hb);have n5_:=Aside0.mk (Kd.R_below qz41 hb);have n6_:=Aside0.mk (blk_below (g:=gb330) (o:=.cells #[.slice A0_0 l0_0.length c0_0,.slice A0_1 l0_1.length c0_1] 25 (0,0)) qz10 hb);have n7_:=Aside0.mk (blk_below (g:=gb349) (o:=.cells #[.slice Ao71 t343.length co71,.slice Ao74 t346.length co74] 33 (0,0)) qz47 hb);have n8_:=Aside0.mk (below_step qz9 hb);clear HO335 HO338 HO341 HO345 HO348 HO352 BK330 BK349 HB;have HO335:=n0_;have HO338:=n1_;have HO341:=n2_;have HO345:=n3_;have HO348:=n4_;have HO352:=n5_;have BK330:=n6_;have BK349:=n7_;have HB:=n8_;clear n0_ n1_ n2_ n3_ n4_ n5_ n6_ n7_ n8_;(try clear hb);(try clear hb2);(try clear hk);(try clear hi)))
      have n0_:=Aside0.mk (Kd.R_drew HO335.out)
      have n1_:=Aside0.mk (Kd.R_drew HO338.out)
      have n2_:=Aside0.mk (Kd.R_drew HO341.out)
      have n3_:=Aside0.mk (Kd.R_drew HO345.out)
      have n4_:=Aside0.mk (Kd.R_drew HO348.out)
      have n5_:=Aside0.mk (Kd.R_drew HO352.out)
      have n6_:=Aside0.mk (blk_drew BK330.out)
      have n7_:=Aside0.mk (blk_drew BK349.out)
      have n8_:=Aside0.mk (below_drew1 HB.out)
      clear HO335 HO338 HO341 HO345 HO348 HO352 BK330 BK349 HB
      have HO335:=n0_
      have HO338:=n1_
      have HO341:=n2_
      have HO345:=n3_
      have HO348:=n4_
      have HO352:=n5_
      have BK330:=n6_
      have BK349:=n7_
      have HB:=n8_
      clear n0_ n1_ n2_ n3_ n4_ n5_ n6_ n7_ n8_
      refine start_ (n:=5) (S:=fun w'=>w'.cell? ⟨gb349,0,none⟩=some (.slice Ao71 t343.length co71)∧w'.cell? ⟨gb349,1,none⟩=some (.slice Ao74 t346.length co74)∧w'.cell? ⟨gb330,0,none⟩=some (.slice A0_0 l0_0.length c0_0)∧w'.cell? ⟨gb330,1,none⟩=some (.slice A0_1 l0_1.length c0_1)) (ds:=[]) #[false,false,false,false,false] (by kernel_rfl) rfl rfl ⟨(blk_cell BK349.out 0).trans rfl,(blk_cell BK349.out 1).trans rfl,(blk_cell BK330.out 0).trans rfl,(blk_cell BK330.out 1).trans rfl⟩ (fun hHeld=>?_)
      generalize w78.drew=w79 at HO335 HO338 HO341 HO345 HO348 HO352 BK330 BK349 HB hHeld ⊢
      refine take_ (i:=0) (N:=some 35) (v:=?_) (a':=?_) #[true,false,false,false,false] rfl rfl (by kernel_rfl) (fun _ _ _ h=>h) (Or.inl ⟨by rfl,?_⟩) hHeld ?_ ?_
      rotate_left
      ·rintro w' ⟨s0,s1,s2,s3⟩
       go_simp
       with_reducible rfl
      rotate_left
      ·simp only [Act.put,List.setIfInBounds_toArray,List.set_cons_zero,List.set_cons_succ,i64_w,i32_w]
       rfl
      refine take_ (i:=1) (N:=some 36) (v:=?_) (a':=?_) #[true,true,false,false,false] rfl rfl (by kernel_rfl) (fun _ _ _ h=>h) (Or.inl ⟨by rfl,?_⟩) hHeld ?_ ?_
      rotate_left
      ·rintro w' ⟨s0,s1,s2,s3⟩
       go_simp
       with_reducible rfl
      rotate_left
      ·simp only [Act.put,List.setIfInBounds_toArray,List.set_cons_zero,List.set_cons_succ,i64_w,i32_w]
       rfl
      refine one_ (i:=2) (N:=some 37) #[true,true,true,false,false] rfl rfl (by kernel_rfl) (by decide) (fun K hK=>?_)
      refine goes_ Tryd.func9 (by kernel_rfl) rfl #[.agg #[.slice A0_0 l0_0.length c0_0,.slice A0_1 l0_1.length c0_1]] (by rfl) rfl rfl qz2 ?_
      with_reducible refine (laws_toPrgProg.calls k _ _ l0_0 _ _ l0_1 t354 t357 _ ?side1 ?side2 ?side3 ?side4 A21.out).mono ?_
      (case side1=>exact qz8)
      (case side2=>exact HC0_0.out)
      (case side3=>exact qz5)
      (case side4=>exact HC0_1.out)
      rintro e w80 ⟨v355,v358,rfl,ho0,ho1,hb⟩
      refine ⟨_,rfl,?_⟩
      have n0_:=Aside0.mk (Kd.R_elder' qz17 (Kd.R_base ho0) hb)
      have n1_:=Aside0.mk (Kd.R_elder' qz16 (Kd.R_base ho1) hb)
      have n2_:=Aside0.mk (Kd.R_below qz18 hb)
      have n3_:=Aside0.mk (Kd.R_elder' qz37 (Kd.R_base ho0) hb)
      have n4_:=Aside0.mk (Kd.R_elder' qz36 (Kd.R_base ho1) hb)
      have n5_:=Aside0.mk (Kd.R_below qz41 hb)
      have n6_:=Aside0.mk (Kd.R_lower (Kd.R_new' (Kd.R_new' (Kd.R_new' (Kd.R_new' ho0 (Kd.R_lt qz17)) (Kd.R_lt qz18)) (Kd.R_lt qz37)) (Kd.R_lt qz41)) (below_size qz9))
      have n7_:=Aside0.mk (Kd.R_lower (Kd.R_new' (Kd.R_new' ho1 (Kd.R_lt qz16)) (Kd.R_lt qz36)) (below_size qz9))
      have n8_:=Aside0.mk (blk_below (g:=gb330) (o:=.cells #[.slice A0_0 l0_0.length c0_0,.slice A0_1 l0_1.length c0_1] 25 (0,0)) qz10 hb)
      have n9_:=Aside0.mk (blk_below (g:=gb349) (o:=.cells #[.slice Ao71 t343.length co71,.slice Ao74 t346.length co74] 33 (0,0)) qz47 hb)
      have n10_:=Aside0.mk (below_step qz9 hb)
      clear HO335 HO338 HO341 HO345 HO348 HO352 BK330 BK349 HB
      have HO335:=n0_
      have HO338:=n1_
      have HO341:=n2_
      have HO345:=n3_
      have HO348:=n4_
      have HO352:=n5_
      have HO356:=n6_
      have HO359:=n7_
      have BK330:=n8_
      have BK349:=n9_
      have HB:=n10_
      clear n0_ n1_ n2_ n3_ n4_ n5_ n6_ n7_ n8_ n9_ n10_
      (try clear hb)
      (try clear hb2)
      (try clear hk)
      (try clear hi)
      (try clear ho0)
      (try clear ho1)
      obtain ⟨Ao81,co81,eo81⟩:=Kd.R_slice HO356.out
      (first|subst eo81|(injection eo81 with f1_ f2_ f3_;have f4_:=f1_.symm;have f5_:=f3_.symm;clear f1_ f2_ f3_;subst f4_;subst f5_))
      obtain ⟨Ao82,co82,eo82⟩:=Kd.R_slice HO359.out
      (first|subst eo82|(injection eo82 with f1_ f2_ f3_;have f4_:=f1_.symm;have f5_:=f3_.symm;clear f1_ f2_ f3_;subst f4_;subst f5_))
      refine hK.out _ _ ⟨(blk_cell BK349.out 0).trans rfl,(blk_cell BK349.out 1).trans rfl,(blk_cell BK330.out 0).trans rfl,(blk_cell BK330.out 1).trans rfl⟩ (fun hHeld=>?_)
      clear hK K
      refine norm_ (a':=?_) ?_ ?_
      rotate_left
      ·show Act.put _ (some 37) _=_
       simp only [Act.put,List.setIfInBounds_toArray,List.set_cons_zero,List.set_cons_succ,i64_w,i32_w]
       rfl
      refine one_ (i:=3) (N:=some 38) #[true,true,true,true,false] rfl rfl (by kernel_rfl) (by decide) (fun K hK=>?_)
      refine goes_ Tryd.func12 (by kernel_rfl) rfl #[.agg #[.slice Ao71 t343.length co71,.slice Ao74 t346.length co74],.agg #[.slice Ao81 t354.length co81,.slice Ao82 t357.length co82]] (by rfl) rfl rfl qz2 ?_
      with_reducible refine (laws_eqPrgProg.calls k _ _ t343 _ _ t346 _ _ t354 _ _ t357 true _ ?side1 ?side2 ?side3 ?side4 ?side5 ?side6 ?side7 ?side8 A22.out).mono ?_
      (case side1=>exact qz73)
      (case side2=>exact (Kd.R_reads' HO345.out).2.1)
      (case side3=>exact qz72)
      (case side4=>exact (Kd.R_reads' HO348.out).2.1)
      (case side5=>exact qz125)
      (case side6=>exact (Kd.R_reads' HO356.out).2.1)
      (case side7=>exact qz124)
      (case side8=>exact (Kd.R_reads' HO359.out).2.1)
      rintro e w83 ⟨rfl,hb⟩
      refine ⟨_,rfl,?_⟩
      have n0_:=Aside0.mk (Kd.R_below qz17 hb)
      have n1_:=Aside0.mk (Kd.R_below qz16 hb)
      have n2_:=Aside0.mk (Kd.R_below qz18 hb)
      have n3_:=Aside0.mk (Kd.R_below qz37 hb)
      have n4_:=Aside0.mk (Kd.R_below qz36 hb)
      have n5_:=Aside0.mk (Kd.R_below qz41 hb)
      have n6_:=Aside0.mk (Kd.R_below qz88 hb)
      have n7_:=Aside0.mk (Kd.R_below qz87 hb)
      have n8_:=Aside0.mk (blk_below (g:=gb330) (o:=.cells #[.slice A0_0 l0_0.length c0_0,.slice A0_1 l0_1.length c0_1] 25 (0,0)) qz10 hb)
      have n9_:=Aside0.mk (blk_below (g:=gb349) (o:=.cells #[.slice Ao71 t343.length co71,.slice Ao74 t346.length co74] 33 (0,0)) qz47 hb)
      have n10_:=Aside0.mk (below_step qz9 hb)
      clear HO335 HO338 HO341 HO345 HO348 HO352 HO356 HO359 BK330 BK349 HB
      have HO335:=n0_
      have HO338:=n1_
      have HO341:=n2_
      have HO345:=n3_
      have HO348:=n4_
      have HO352:=n5_
      have HO356:=n6_
      have HO359:=n7_
      have BK330:=n8_
      have BK349:=n9_
      have HB:=n10_
      clear n0_ n1_ n2_ n3_ n4_ n5_ n6_ n7_ n8_ n9_ n10_
      (try clear hb)
      (try clear hb2)
      (try clear hk)
      (try clear hi)
      refine hK.out _ _ ⟨(blk_cell BK349.out 0).trans rfl,(blk_cell BK349.out 1).trans rfl,(blk_cell BK330.out 0).trans rfl,(blk_cell BK330.out 1).trans rfl⟩ (fun hHeld=>?_)
      clear hK K
      refine norm_ (a':=?_) ?_ ?_
      rotate_left
      ·show Act.put _ (some 38) _=_
       simp only [Act.put,List.setIfInBounds_toArray,List.set_cons_zero,List.set_cons_succ,i64_w,i32_w]
       rfl
      refine pure_ (i:=4) (N:=some 39) (v:=?_) (a':=?_) #[true,true,true,true,true] rfl rfl (by kernel_rfl) (fun _ _ _ h=>h) (Or.inl ⟨by rfl,?_⟩) ?_ ?_
      rotate_left
      ·intro w'
       go_simp
       with_reducible rfl
      rotate_left
      ·simp only [Act.put,List.setIfInBounds_toArray,List.set_cons_zero,List.set_cons_succ,i64_w,i32_w]
       rfl
      refine done_ (by kernel_rfl) ?_
      try go_wp2_with (first|((with_reducible refine gate_callee (f:=10) rfl ?_);refine goesL_ (some 42) rfl rfl Tryd.func10 (by kernel_rfl) rfl #[.slice A1 l1.length c1] rfl qz2 ?_;(with_reducible refine (laws_toTrmCellS.calls k _ _ l1 t361 _ ?side1 ?side2 A24.out).mono ?_);(case side1=>exact qz26);(case side2=>exact HC1.out);rintro e w84 ⟨v362,rfl,ho0,hb⟩;refine ⟨_,rfl,?_⟩;have n0_:=Aside0.mk (Kd.R_elder' qz17 (Kd.R_base ho0) hb);have n1_:=Aside0.mk (Kd.R_below qz16 hb);have n2_:=Aside0.mk (Kd.R_elder' qz18 (Kd.R_base ho0) hb);have n3_:=Aside0.mk (Kd.R_elder' qz37 (Kd.R_base ho0) hb);have n4_:=Aside0.mk (Kd.R_below qz36 hb);have n5_:=Aside0.mk (Kd.R_elder' qz41 (Kd.R_base ho0) hb);have n6_:=Aside0.mk (Kd.R_elder' qz88 (Kd.R_base ho0) hb);have n7_:=Aside0.mk (Kd.R_below qz87 hb);have n8_:=Aside0.mk (Kd.R_lower (Kd.R_new' (Kd.R_new' ho0 (Kd.R_lt qz18)) (Kd.R_lt qz41)) (below_size qz9));have n9_:=Aside0.mk (blk_below (g:=gb330) (o:=.cells #[.slice A0_0 l0_0.length c0_0,.slice A0_1 l0_1.length c0_1] 25 (0,0)) qz10 hb);have n10_:=Aside0.mk (blk_below (g:=gb349) (o:=.cells #[.slice Ao71 t343.length co71,.slice Ao74 t346.length co74] 33 (0,0)) qz47 hb);have n11_:=Aside0.mk (below_step qz9 hb);clear HO335 HO338 HO341 HO345 HO348 HO352 HO356 HO359 BK330 BK349 HB;have HO335:=n0_;have HO338:=n1_;have HO341:=n2_;have HO345:=n3_;have HO348:=n4_;have HO352:=n5_;have HO356:=n6_;have HO359:=n7_;have HO363:=n8_;have BK330:=n9_;have BK349:=n10_;have HB:=n11_;clear n0_ n1_ n2_ n3_ n4_ n5_ n6_ n7_ n8_ n9_ n10_ n11_;(try clear hb);(try clear hb2);(try clear hk);(try clear hi);(try clear ho0);obtain ⟨Ao85,co85,eo85⟩:=Kd.R_slice HO363.out;subst eo85)|((with_reducible refine gate_callee (f:=13) rfl ?_);refine goesL_ (some 43) rfl rfl Tryd.func13 (by kernel_rfl) rfl #[.slice Ao77 t350.length co77,.slice Ao85 t361.length co85] rfl qz2 ?_;(with_reducible refine (laws_eqTrmCellS.calls k _ _ t350 _ _ t361 false _ ?side1 ?side2 ?side3 ?side4 A25.out).mono ?_);(case side1=>exact qz82);(case side2=>exact (Kd.R_reads' HO352.out).2.1);(case side3=>exact qz171);(case side4=>exact (Kd.R_reads' HO363.out).2.1);rintro e w86 ⟨rfl,hb⟩;refine ⟨_,rfl,?_⟩;have n0_:=Aside0.mk (Kd.R_below qz17 hb);have n1_:=Aside0.mk (Kd.R_below qz16 hb);have n2_:=Aside0.mk (Kd.R_below qz18 hb);have n3_:=Aside0.mk (Kd.R_below qz37 hb);have n4_:=Aside0.mk (Kd.R_below qz36 hb);have n5_:=Aside0.mk (Kd.R_below qz41 hb);have n6_:=Aside0.mk (Kd.R_below qz88 hb);have n7_:=Aside0.mk (Kd.R_below qz87 hb);have n8_:=Aside0.mk (Kd.R_below (by (with_reducible repeat (first|apply Kd.R_alloc|apply Kd.R_drewN|apply Kd.R_drew));exact HO363.out) hb);have n9_:=Aside0.mk (blk_below (g:=gb330) (o:=.cells #[.slice A0_0 l0_0.length c0_0,.slice A0_1 l0_1.length c0_1] 25 (0,0)) qz10 hb);have n10_:=Aside0.mk (blk_below (g:=gb349) (o:=.cells #[.slice Ao71 t343.length co71,.slice Ao74 t346.length co74] 33 (0,0)) qz47 hb);have n11_:=Aside0.mk (below_step qz9 hb);clear HO335 HO338 HO341 HO345 HO348 HO352 HO356 HO359 HO363 BK330 BK349 HB;have HO335:=n0_;have HO338:=n1_;have HO341:=n2_;have HO345:=n3_;have HO348:=n4_;have HO352:=n5_;have HO356:=n6_;have HO359:=n7_;have HO363:=n8_;have BK330:=n9_;have BK349:=n10_;have HB:=n11_;clear n0_ n1_ n2_ n3_ n4_ n5_ n6_ n7_ n8_ n9_ n10_ n11_;(try clear hb);(try clear hb2);(try clear hk);(try clear hi)))
      go_ret
      exact ⟨qz3,qz9⟩
    ·replace c23:=Bool.eq_false_iff.mpr c23
     subst c23
     have H1:(some false)=some r:=qz23
     clear H
     have H:=H1
     clear H1
     obtain rfl:=Option.some.inj H
     go_enter Tryd.func3,Tryd.ntmps3
     try go_wp2_with (first|((with_reducible refine gate_dst (N:=2) rfl ?_);refine box_event ?hg (N:=2) ?hd (cs:=#[.slice A0_0 l0_0.length c0_0,.slice A0_1 l0_1.length c0_1]) (t:=25) ?hr ?_;(case hd=>rfl);(case hg=>rfl);(case hr=>first|(go_simp;done)|(go_simp;rfl));intro gb330 hg w87 hbox hb;have n0_:=Aside0.mk (below_step qz1 hb);have n1_:=Aside0.mk (hbox);have n2_:=Aside0.mk ((by rw [hg];exact (below_size qz1):w.heap.size≤gb330));have n3_:=Aside0.mk ((by rw [hg];exact (below_size qz1):w.heap.size≤gb330));clear HB;have HB:=n0_;have BK330:=n1_;have GW330:=n2_;have GE330:=n3_;clear n0_ n1_ n2_ n3_ hb hbox hg;have hcz88_0:w87.cell? ⟨gb330,0,none⟩=some (.slice A0_0 l0_0.length c0_0):=(blk_cell BK330.out 0).trans rfl;have hcz88_1:w87.cell? ⟨gb330,1,none⟩=some (.slice A0_1 l0_1.length c0_1):=(blk_cell BK330.out 1).trans rfl;have hfz88_0:=blk_frozen BK330.out 0;have hfz88_1:=blk_frozen BK330.out 1)|((with_reducible refine gate_callee (f:=6) rfl ?_);refine goesL_ (some 12) rfl rfl Tryd.func6 (by kernel_rfl) rfl #[.agg #[.slice A0_0 l0_0.length c0_0,.slice A0_1 l0_1.length c0_1],.int .i64 1048576] rfl qz2 ?_;(with_reducible refine (laws_szPrgProg.calls k _ _ l0_0 _ _ l0_1 1048576 t331 _ ?side1 ?side2 ?side3 ?side4 A3.out).mono ?_);(case side1=>exact qz8);(case side2=>exact HC0_0.out);(case side3=>exact qz5);(case side4=>exact HC0_1.out);rintro e w89 ⟨rfl,hb⟩;refine ⟨_,rfl,?_⟩;have n0_:=Aside0.mk (blk_below (g:=gb330) (o:=.cells #[.slice A0_0 l0_0.length c0_0,.slice A0_1 l0_1.length c0_1] 25 (0,0)) qz10 hb);have n1_:=Aside0.mk (below_step qz6 hb);clear BK330 HB;have BK330:=n0_;have HB:=n1_;clear n0_ n1_;(try clear hb);(try clear hb2);(try clear hk);(try clear hi))|((with_reducible refine gate_callee (f:=7) rfl ?_);refine goesL_ (some 17) rfl rfl Tryd.func7 (by kernel_rfl) rfl #[.slice A1 l1.length c1,.int .i64 t331] rfl qz2 ?_;(with_reducible refine (laws_szTrmCellS.calls k _ _ l1 t331 t332 _ ?side1 ?side2 A8.out).mono ?_);(case side1=>exact qz26);(case side2=>exact HC1.out);rintro e w90 ⟨rfl,hb⟩;refine ⟨_,rfl,?_⟩;have n0_:=Aside0.mk (blk_below (g:=gb330) (o:=.cells #[.slice A0_0 l0_0.length c0_0,.slice A0_1 l0_1.length c0_1] 25 (0,0)) qz10 hb);have n1_:=Aside0.mk (below_step qz6 hb);clear BK330 HB;have BK330:=n0_;have HB:=n1_;clear n0_ n1_;(try clear hb);(try clear hb2);(try clear hk);(try clear hi);have hcz91_0:w90.cell? ⟨gb330,0,none⟩=some (.slice A0_0 l0_0.length c0_0):=(blk_cell BK330.out 0).trans rfl;have hcz91_1:w90.cell? ⟨gb330,1,none⟩=some (.slice A0_1 l0_1.length c0_1):=(blk_cell BK330.out 1).trans rfl;have hfz91_0:=blk_frozen BK330.out 0;have hfz91_1:=blk_frozen BK330.out 1)|((with_reducible refine gate_callee (f:=9) rfl ?_);refine goesL_ (some 21) rfl rfl Tryd.func9 (by kernel_rfl) rfl #[.agg #[.slice A0_0 l0_0.length c0_0,.slice A0_1 l0_1.length c0_1]] rfl qz2 ?_;(with_reducible refine (laws_toPrgProg.calls k _ _ l0_0 _ _ l0_1 t333 t336 _ ?side1 ?side2 ?side3 ?side4 A14.out).mono ?_);(case side1=>exact qz8);(case side2=>exact HC0_0.out);(case side3=>exact qz5);(case side4=>exact HC0_1.out);rintro e w92 ⟨v334,v337,rfl,ho0,ho1,hb⟩;refine ⟨_,rfl,?_⟩;have n0_:=Aside0.mk (Kd.R_lower ho0 (below_size qz6));have n1_:=Aside0.mk (Kd.R_lower ho1 (below_size qz6));have n2_:=Aside0.mk (blk_below (g:=gb330) (o:=.cells #[.slice A0_0 l0_0.length c0_0,.slice A0_1 l0_1.length c0_1] 25 (0,0)) qz10 hb);have n3_:=Aside0.mk (below_step qz6 hb);clear BK330 HB;have HO335:=n0_;have HO338:=n1_;have BK330:=n2_;have HB:=n3_;clear n0_ n1_ n2_ n3_;(try clear hb);(try clear hb2);(try clear hk);(try clear hi);(try clear ho0);(try clear ho1))|((with_reducible refine gate_callee (f:=10) rfl ?_);refine goesL_ (some 23) rfl rfl Tryd.func10 (by kernel_rfl) rfl #[.slice A1 l1.length c1] rfl qz2 ?_;(with_reducible refine (laws_toTrmCellS.calls k _ _ l1 t339 _ ?side1 ?side2 A15.out).mono ?_);(case side1=>exact qz26);(case side2=>exact HC1.out);rintro e w93 ⟨v340,rfl,ho0,hb⟩;refine ⟨_,rfl,?_⟩;have n0_:=Aside0.mk (Kd.R_elder' qz17 (Kd.R_base ho0) hb);have n1_:=Aside0.mk (Kd.R_below qz16 hb);have n2_:=Aside0.mk (Kd.R_lower ho0 (below_size qz6));have n3_:=Aside0.mk (blk_below (g:=gb330) (o:=.cells #[.slice A0_0 l0_0.length c0_0,.slice A0_1 l0_1.length c0_1] 25 (0,0)) qz10 hb);have n4_:=Aside0.mk (below_step qz6 hb);clear HO335 HO338 BK330 HB;have HO335:=n0_;have HO338:=n1_;have HO341:=n2_;have BK330:=n3_;have HB:=n4_;clear n0_ n1_ n2_ n3_ n4_;(try clear hb);(try clear hb2);(try clear hk);(try clear hi);(try clear ho0);obtain ⟨Ao94,co94,eo94⟩:=Kd.R_slice HO335.out;subst eo94;obtain ⟨Ao95,co95,eo95⟩:=Kd.R_slice HO338.out;subst eo95;obtain ⟨Ao96,co96,eo96⟩:=Kd.R_slice HO341.out;subst eo96)|((with_reducible refine gate_callee (f:=8) rfl ?_);refine goesL_ (some 24) rfl rfl Tryd.func8 (by kernel_rfl) rfl #[.agg #[.slice Ao94 t333.length co94,.slice Ao95 t336.length co95],.slice Ao96 t339.length co96] rfl qz2 ?_;(with_reducible refine (spec_PrgNode.calls k _ _ t333 _ _ t336 _ _ t339 t342 _ ?side1 ?side2 ?side3 ?side4 ?side5 ?side6 A16.out).mono ?_);(case side1=>exact qz102);(case side2=>exact (Kd.R_reads' HO335.out).2.1);(case side3=>exact qz101);(case side4=>exact (Kd.R_reads' HO338.out).2.1);(case side5=>exact qz100);(case side6=>exact (Kd.R_reads' HO341.out).2.1);rintro e w97 ⟨rfl,hb⟩;refine ⟨_,rfl,?_⟩;have n0_:=Aside0.mk (Kd.R_below qz17 hb);have n1_:=Aside0.mk (Kd.R_below qz16 hb);have n2_:=Aside0.mk (Kd.R_below qz18 hb);have n3_:=Aside0.mk (blk_below (g:=gb330) (o:=.cells #[.slice A0_0 l0_0.length c0_0,.slice A0_1 l0_1.length c0_1] 25 (0,0)) qz10 hb);have n4_:=Aside0.mk (below_step qz6 hb);clear HO335 HO338 HO341 BK330 HB;have HO335:=n0_;have HO338:=n1_;have HO341:=n2_;have BK330:=n3_;have HB:=n4_;clear n0_ n1_ n2_ n3_ n4_;(try clear hb);(try clear hb2);(try clear hk);(try clear hi);have hcz98_0:w97.cell? ⟨gb330,0,none⟩=some (.slice A0_0 l0_0.length c0_0):=(blk_cell BK330.out 0).trans rfl;have hcz98_1:w97.cell? ⟨gb330,1,none⟩=some (.slice A0_1 l0_1.length c0_1):=(blk_cell BK330.out 1).trans rfl;have hfz98_0:=blk_frozen BK330.out 0;have hfz98_1:=blk_frozen BK330.out 1)|((with_reducible refine gate_callee (f:=9) rfl ?_);refine goesL_ (some 26) rfl rfl Tryd.func9 (by kernel_rfl) rfl #[.agg #[.slice A0_0 l0_0.length c0_0,.slice A0_1 l0_1.length c0_1]] rfl qz2 ?_;(with_reducible refine (laws_toPrgProg.calls k _ _ l0_0 _ _ l0_1 t343 t346 _ ?side1 ?side2 ?side3 ?side4 A17.out).mono ?_);(case side1=>exact qz8);(case side2=>exact HC0_0.out);(case side3=>exact qz5);(case side4=>exact HC0_1.out);rintro e w99 ⟨v344,v347,rfl,ho0,ho1,hb⟩;refine ⟨_,rfl,?_⟩;have n0_:=Aside0.mk (Kd.R_elder' qz17 (Kd.R_base ho0) hb);have n1_:=Aside0.mk (Kd.R_elder' qz16 (Kd.R_base ho1) hb);have n2_:=Aside0.mk (Kd.R_below qz18 hb);have n3_:=Aside0.mk (Kd.R_lower (Kd.R_new' (Kd.R_new' ho0 (Kd.R_lt qz17)) (Kd.R_lt qz18)) (below_size qz6));have n4_:=Aside0.mk (Kd.R_lower (Kd.R_new' ho1 (Kd.R_lt qz16)) (below_size qz6));have n5_:=Aside0.mk (blk_below (g:=gb330) (o:=.cells #[.slice A0_0 l0_0.length c0_0,.slice A0_1 l0_1.length c0_1] 25 (0,0)) qz10 hb);have n6_:=Aside0.mk (below_step qz6 hb);clear HO335 HO338 HO341 BK330 HB;have HO335:=n0_;have HO338:=n1_;have HO341:=n2_;have HO345:=n3_;have HO348:=n4_;have BK330:=n5_;have HB:=n6_;clear n0_ n1_ n2_ n3_ n4_ n5_ n6_;(try clear hb);(try clear hb2);(try clear hk);(try clear hi);(try clear ho0);(try clear ho1))|((with_reducible refine gate_dst (N:=7) rfl ?_);refine box_event ?hg (N:=7) ?hd (cs:=#[.slice none 0 0,.slice none 0 0]) (t:=33) ?hr ?_;(case hd=>rfl);(case hg=>rfl);(case hr=>first|(go_simp;done)|(go_simp;rfl));intro gb349 hg w100 hbox hb;have n0_:=Aside0.mk (Kd.R_below qz17 hb);have n1_:=Aside0.mk (Kd.R_below qz16 hb);have n2_:=Aside0.mk (Kd.R_below qz18 hb);have n3_:=Aside0.mk (Kd.R_below qz37 hb);have n4_:=Aside0.mk (Kd.R_below qz36 hb);have n5_:=Aside0.mk (blk_below (g:=gb330) (o:=.cells #[.slice A0_0 l0_0.length c0_0,.slice A0_1 l0_1.length c0_1] 25 (0,0)) qz10 hb);have n6_:=Aside0.mk (below_step qz6 hb);have n7_:=Aside0.mk (hbox);have n8_:=Aside0.mk ((by rw [hg];exact (below_size qz6):w.heap.size≤gb349));have n9_:=Aside0.mk ((by rw [hg];exact (below_size qz6):w.heap.size≤gb349));have n10_:=Aside0.mk ((by rw [hg];exact Nat.ne_of_lt (blk_lt (g:=gb330) (o:=.cells #[.slice A0_0 l0_0.length c0_0,.slice A0_1 l0_1.length c0_1] 25 (0,0)) qz10):gb330≠gb349));have n11_:=Aside0.mk ((by rw [hg];exact Nat.ne_of_gt (blk_lt (g:=gb330) (o:=.cells #[.slice A0_0 l0_0.length c0_0,.slice A0_1 l0_1.length c0_1] 25 (0,0)) qz10):gb349≠gb330));clear HO335 HO338 HO341 HO345 HO348 BK330 HB;have HO335:=n0_;have HO338:=n1_;have HO341:=n2_;have HO345:=n3_;have HO348:=n4_;have BK330:=n5_;have HB:=n6_;have BK349:=n7_;have GW349:=n8_;have GE349:=n9_;have NB330_349:=n10_;have NB349_330:=n11_;clear n0_ n1_ n2_ n3_ n4_ n5_ n6_ n7_ n8_ n9_ n10_ n11_ hb hbox hg;obtain ⟨Ao101,co101,eo101⟩:=Kd.R_slice HO345.out;subst eo101;have hnb102:=NB349_330.out;have hnc102:=NB330_349.out;have hcz103_0:w100.cell? ⟨gb349,0,none⟩=some (.slice none 0 0):=(blk_cell BK349.out 0).trans rfl;have hcz103_1:w100.cell? ⟨gb349,1,none⟩=some (.slice none 0 0):=(blk_cell BK349.out 1).trans rfl;have hfz103_0:=blk_frozen BK349.out 0;have hfz103_1:=blk_frozen BK349.out 1;obtain ⟨Ao104,co104,eo104⟩:=Kd.R_slice HO348.out;subst eo104)|((with_reducible refine gate_callee (f:=10) rfl ?_);refine goesL_ (some 28) rfl rfl Tryd.func10 (by kernel_rfl) rfl #[.slice A1 l1.length c1] rfl qz2 ?_;(with_reducible refine (laws_toTrmCellS.calls k _ _ l1 t350 _ ?side1 ?side2 A18.out).mono ?_);(case side1=>exact Kd.C_below HR1.out qz9);(case side2=>exact HC1.out);rintro e w105 ⟨v351,rfl,ho0,hb⟩;refine ⟨_,rfl,?_⟩;have n0_:=Aside0.mk (Kd.R_elder' (by (with_reducible repeat (first|apply Kd.R_alloc|apply Kd.R_drewN|apply Kd.R_drew));exact (Kd.R_mono (Kd.R_far (p:=⟨gb349,1,none⟩) (Kd.R_far (p:=⟨gb349,0,none⟩) (Kd.R_types HO335.out BK349.out (by decide)) (fun _ hk=>hk.2) (.slice Ao101 t343.length co101)) (fun _ hk=>hk.2) (.slice Ao104 t346.length co104)) (fun _ h_=>h_.1))) (Kd.R_base ho0) hb);have n1_:=Aside0.mk (Kd.R_below (by (with_reducible repeat (first|apply Kd.R_alloc|apply Kd.R_drewN|apply Kd.R_drew));exact (Kd.R_mono (Kd.R_far (p:=⟨gb349,1,none⟩) (Kd.R_far (p:=⟨gb349,0,none⟩) (Kd.R_types HO338.out BK349.out (by decide)) (fun _ hk=>hk.2) (.slice Ao101 t343.length co101)) (fun _ hk=>hk.2) (.slice Ao104 t346.length co104)) (fun _ h_=>h_.1))) hb);have n2_:=Aside0.mk (Kd.R_elder' qz118 (Kd.R_base ho0) hb);have n3_:=Aside0.mk (Kd.R_elder' (by (with_reducible repeat (first|apply Kd.R_alloc|apply Kd.R_drewN|apply Kd.R_drew));exact (Kd.R_mono (Kd.R_far (p:=⟨gb349,1,none⟩) (Kd.R_far (p:=⟨gb349,0,none⟩) (Kd.R_types HO345.out BK349.out (by decide)) (fun _ hk=>hk.2) (.slice Ao101 t343.length co101)) (fun _ hk=>hk.2) (.slice Ao104 t346.length co104)) (fun _ h_=>h_.1))) (Kd.R_base ho0) hb);have n4_:=Aside0.mk (Kd.R_below (by (with_reducible repeat (first|apply Kd.R_alloc|apply Kd.R_drewN|apply Kd.R_drew));exact (Kd.R_mono (Kd.R_far (p:=⟨gb349,1,none⟩) (Kd.R_far (p:=⟨gb349,0,none⟩) (Kd.R_types HO348.out BK349.out (by decide)) (fun _ hk=>hk.2) (.slice Ao101 t343.length co101)) (fun _ hk=>hk.2) (.slice Ao104 t346.length co104)) (fun _ h_=>h_.1))) hb);have n5_:=Aside0.mk (Kd.R_lower (Kd.R_new' ho0 (Kd.R_lt qz118)) (below_size qz9));have n6_:=Aside0.mk (blk_below (g:=gb330) (o:=.cells #[.slice A0_0 l0_0.length c0_0,.slice A0_1 l0_1.length c0_1] 25 (0,0)) qz62 hb);have n7_:=Aside0.mk (blk_below (g:=gb349) (o:=.cells #[.slice Ao101 t343.length co101,.slice Ao104 t346.length co104] 33 (0,0)) (by (with_reducible repeat (first|refine blk_drewN ?_ _|refine blk_drew ?_|refine blk_alloc ?_ _));refine blk_put (cs:=#[.slice Ao101 t343.length co101,.slice none 0 0]) ?_ 1 _ rfl;(with_reducible repeat (first|refine blk_drewN ?_ _|refine blk_drew ?_|refine blk_alloc ?_ _));refine blk_put (cs:=#[.slice none 0 0,.slice none 0 0]) ?_ 0 _ rfl;(with_reducible repeat (first|refine blk_drewN ?_ _|refine blk_drew ?_|refine blk_alloc ?_ _));exact BK349.out) hb);have n8_:=Aside0.mk (below_step qz9 hb);clear HO335 HO338 HO341 HO345 HO348 BK330 BK349 HB;have HO335:=n0_;have HO338:=n1_;have HO341:=n2_;have HO345:=n3_;have HO348:=n4_;have HO352:=n5_;have BK330:=n6_;have BK349:=n7_;have HB:=n8_;clear n0_ n1_ n2_ n3_ n4_ n5_ n6_ n7_ n8_;(try clear hb);(try clear hb2);(try clear hk);(try clear hi);(try clear ho0);have hcz106_0:w105.cell? ⟨gb349,0,none⟩=some (.slice Ao101 t343.length co101):=(blk_cell BK349.out 0).trans rfl;have hcz106_1:w105.cell? ⟨gb349,1,none⟩=some (.slice Ao104 t346.length co104):=(blk_cell BK349.out 1).trans rfl;have hfz106_0:=blk_frozen BK349.out 0;have hfz106_1:=blk_frozen BK349.out 1;obtain ⟨Ao107,co107,eo107⟩:=Kd.R_slice HO352.out;subst eo107)|((with_reducible refine gate_callee (f:=11) rfl ?_);refine goesL_ (some 31) rfl rfl Tryd.func11 (by kernel_rfl) rfl #[.agg #[.slice Ao101 t343.length co101,.slice Ao104 t346.length co104],.slice Ao107 t350.length co107] rfl qz2 ?_;(with_reducible refine (impl_PrgNode.calls k _ _ t343 _ _ t346 _ _ t350 t353 _ ?side1 ?side2 ?side3 ?side4 ?side5 ?side6 A19.out).mono ?_);(case side1=>exact qz73);(case side2=>exact (Kd.R_reads' HO345.out).2.1);(case side3=>exact qz72);(case side4=>exact (Kd.R_reads' HO348.out).2.1);(case side5=>exact qz82);(case side6=>exact (Kd.R_reads' HO352.out).2.1);rintro e w108 ⟨rfl,hb⟩;refine ⟨_,rfl,?_⟩;have n0_:=Aside0.mk (Kd.R_below qz17 hb);have n1_:=Aside0.mk (Kd.R_below qz16 hb);have n2_:=Aside0.mk (Kd.R_below qz18 hb);have n3_:=Aside0.mk (Kd.R_below qz37 hb);have n4_:=Aside0.mk (Kd.R_below qz36 hb);have n5_:=Aside0.mk (Kd.R_below qz41 hb);have n6_:=Aside0.mk (blk_below (g:=gb330) (o:=.cells #[.slice A0_0 l0_0.length c0_0,.slice A0_1 l0_1.length c0_1] 25 (0,0)) qz10 hb);have n7_:=Aside0.mk (blk_below (g:=gb349) (o:=.cells #[.slice Ao101 t343.length co101,.slice Ao104 t346.length co104] 33 (0,0)) qz47 hb);have n8_:=Aside0.mk (below_step qz9 hb);clear HO335 HO338 HO341 HO345 HO348 HO352 BK330 BK349 HB;have HO335:=n0_;have HO338:=n1_;have HO341:=n2_;have HO345:=n3_;have HO348:=n4_;have HO352:=n5_;have BK330:=n6_;have BK349:=n7_;have HB:=n8_;clear n0_ n1_ n2_ n3_ n4_ n5_ n6_ n7_ n8_;(try clear hb);(try clear hb2);(try clear hk);(try clear hi)))
     have n0_:=Aside0.mk (Kd.R_drew HO335.out)
     have n1_:=Aside0.mk (Kd.R_drew HO338.out)
     have n2_:=Aside0.mk (Kd.R_drew HO341.out)
     have n3_:=Aside0.mk (Kd.R_drew HO345.out)
     have n4_:=Aside0.mk (Kd.R_drew HO348.out)
     have n5_:=Aside0.mk (Kd.R_drew HO352.out)
     have n6_:=Aside0.mk (blk_drew BK330.out)
     have n7_:=Aside0.mk (blk_drew BK349.out)
     have n8_:=Aside0.mk (below_drew1 HB.out)
     clear HO335 HO338 HO341 HO345 HO348 HO352 BK330 BK349 HB
     have HO335:=n0_
     have HO338:=n1_
     have HO341:=n2_
     have HO345:=n3_
     have HO348:=n4_
     have HO352:=n5_
     have BK330:=n6_
     have BK349:=n7_
     have HB:=n8_
     clear n0_ n1_ n2_ n3_ n4_ n5_ n6_ n7_ n8_
     refine start_ (n:=5) (S:=fun w'=>w'.cell? ⟨gb349,0,none⟩=some (.slice Ao101 t343.length co101)∧w'.cell? ⟨gb349,1,none⟩=some (.slice Ao104 t346.length co104)∧w'.cell? ⟨gb330,0,none⟩=some (.slice A0_0 l0_0.length c0_0)∧w'.cell? ⟨gb330,1,none⟩=some (.slice A0_1 l0_1.length c0_1)) (ds:=[]) #[false,false,false,false,false] (by kernel_rfl) rfl rfl ⟨(blk_cell BK349.out 0).trans rfl,(blk_cell BK349.out 1).trans rfl,(blk_cell BK330.out 0).trans rfl,(blk_cell BK330.out 1).trans rfl⟩ (fun hHeld=>?_)
     generalize w108.drew=w109 at HO335 HO338 HO341 HO345 HO348 HO352 BK330 BK349 HB hHeld ⊢
     refine take_ (i:=0) (N:=some 35) (v:=?_) (a':=?_) #[true,false,false,false,false] rfl rfl (by kernel_rfl) (fun _ _ _ h=>h) (Or.inl ⟨by rfl,?_⟩) hHeld ?_ ?_
     rotate_left
     ·rintro w' ⟨s0,s1,s2,s3⟩
      go_simp
      with_reducible rfl
     rotate_left
     ·simp only [Act.put,List.setIfInBounds_toArray,List.set_cons_zero,List.set_cons_succ,i64_w,i32_w]
      rfl
     refine take_ (i:=1) (N:=some 36) (v:=?_) (a':=?_) #[true,true,false,false,false] rfl rfl (by kernel_rfl) (fun _ _ _ h=>h) (Or.inl ⟨by rfl,?_⟩) hHeld ?_ ?_
     rotate_left
     ·rintro w' ⟨s0,s1,s2,s3⟩
      go_simp
      with_reducible rfl
     rotate_left
     ·simp only [Act.put,List.setIfInBounds_toArray,List.set_cons_zero,List.set_cons_succ,i64_w,i32_w]
      rfl
     refine one_ (i:=2) (N:=some 37) #[true,true,true,false,false] rfl rfl (by kernel_rfl) (by decide) (fun K hK=>?_)
     refine goes_ Tryd.func9 (by kernel_rfl) rfl #[.agg #[.slice A0_0 l0_0.length c0_0,.slice A0_1 l0_1.length c0_1]] (by rfl) rfl rfl qz2 ?_
     with_reducible refine (laws_toPrgProg.calls k _ _ l0_0 _ _ l0_1 t354 t357 _ ?side1 ?side2 ?side3 ?side4 A21.out).mono ?_
     (case side1=>exact qz8)
     (case side2=>exact HC0_0.out)
     (case side3=>exact qz5)
     (case side4=>exact HC0_1.out)
     rintro e w110 ⟨v355,v358,rfl,ho0,ho1,hb⟩
     refine ⟨_,rfl,?_⟩
     have n0_:=Aside0.mk (Kd.R_elder' qz17 (Kd.R_base ho0) hb)
     have n1_:=Aside0.mk (Kd.R_elder' qz16 (Kd.R_base ho1) hb)
     have n2_:=Aside0.mk (Kd.R_below qz18 hb)
     have n3_:=Aside0.mk (Kd.R_elder' qz37 (Kd.R_base ho0) hb)
     have n4_:=Aside0.mk (Kd.R_elder' qz36 (Kd.R_base ho1) hb)
     have n5_:=Aside0.mk (Kd.R_below qz41 hb)
     have n6_:=Aside0.mk (Kd.R_lower (Kd.R_new' (Kd.R_new' (Kd.R_new' (Kd.R_new' ho0 (Kd.R_lt qz17)) (Kd.R_lt qz18)) (Kd.R_lt qz37)) (Kd.R_lt qz41)) (below_size qz9))
     have n7_:=Aside0.mk (Kd.R_lower (Kd.R_new' (Kd.R_new' ho1 (Kd.R_lt qz16)) (Kd.R_lt qz36)) (below_size qz9))
     have n8_:=Aside0.mk (blk_below (g:=gb330) (o:=.cells #[.slice A0_0 l0_0.length c0_0,.slice A0_1 l0_1.length c0_1] 25 (0,0)) qz10 hb)
     have n9_:=Aside0.mk (blk_below (g:=gb349) (o:=.cells #[.slice Ao101 t343.length co101,.slice Ao104 t346.length co104] 33 (0,0)) qz47 hb)
     have n10_:=Aside0.mk (below_step qz9 hb)
     clear HO335 HO338 HO341 HO345 HO348 HO352 BK330 BK349 HB
     have HO335:=n0_
     have HO338:=n1_
     have HO341:=n2_
     have HO345:=n3_
     have HO348:=n4_
     have HO352:=n5_
     have HO356:=n6_
     have HO359:=n7_
     have BK330:=n8_
     have BK349:=n9_
     have HB:=n10_
     clear n0_ n1_ n2_ n3_ n4_ n5_ n6_ n7_ n8_ n9_ n10_
     (try clear hb)
     (try clear hb2)
     (try clear hk)
     (try clear hi)
     (try clear ho0)
     (try clear ho1)
     obtain ⟨Ao111,co111,eo111⟩:=Kd.R_slice HO356.out
     (first|subst eo111|(injection eo111 with f1_ f2_ f3_;have f4_:=f1_.symm;have f5_:=f3_.symm;clear f1_ f2_ f3_;subst f4_;subst f5_))
     obtain ⟨Ao112,co112,eo112⟩:=Kd.R_slice HO359.out
     (first|subst eo112|(injection eo112 with f1_ f2_ f3_;have f4_:=f1_.symm;have f5_:=f3_.symm;clear f1_ f2_ f3_;subst f4_;subst f5_))
     refine hK.out _ _ ⟨(blk_cell BK349.out 0).trans rfl,(blk_cell BK349.out 1).trans rfl,(blk_cell BK330.out 0).trans rfl,(blk_cell BK330.out 1).trans rfl⟩ (fun hHeld=>?_)
     clear hK K
     refine norm_ (a':=?_) ?_ ?_
     rotate_left
     ·show Act.put _ (some 37) _=_
      simp only [Act.put,List.setIfInBounds_toArray,List.set_cons_zero,List.set_cons_succ,i64_w,i32_w]
      rfl
     refine one_ (i:=3) (N:=some 38) #[true,true,true,true,false] rfl rfl (by kernel_rfl) (by decide) (fun K hK=>?_)
     refine goes_ Tryd.func12 (by kernel_rfl) rfl #[.agg #[.slice Ao101 t343.length co101,.slice Ao104 t346.length co104],.agg #[.slice Ao111 t354.length co111,.slice Ao112 t357.length co112]] (by rfl) rfl rfl qz2 ?_
     with_reducible refine (laws_eqPrgProg.calls k _ _ t343 _ _ t346 _ _ t354 _ _ t357 false _ ?side1 ?side2 ?side3 ?side4 ?side5 ?side6 ?side7 ?side8 A22.out).mono ?_
     (case side1=>exact qz73)
     (case side2=>exact (Kd.R_reads' HO345.out).2.1)
     (case side3=>exact qz72)
     (case side4=>exact (Kd.R_reads' HO348.out).2.1)
     (case side5=>exact qz125)
     (case side6=>exact (Kd.R_reads' HO356.out).2.1)
     (case side7=>exact qz124)
     (case side8=>exact (Kd.R_reads' HO359.out).2.1)
     rintro e w113 ⟨rfl,hb⟩
     refine ⟨_,rfl,?_⟩
     have n0_:=Aside0.mk (Kd.R_below qz17 hb)
     have n1_:=Aside0.mk (Kd.R_below qz16 hb)
     have n2_:=Aside0.mk (Kd.R_below qz18 hb)
     have n3_:=Aside0.mk (Kd.R_below qz37 hb)
     have n4_:=Aside0.mk (Kd.R_below qz36 hb)
     have n5_:=Aside0.mk (Kd.R_below qz41 hb)
     have n6_:=Aside0.mk (Kd.R_below qz88 hb)
     have n7_:=Aside0.mk (Kd.R_below qz87 hb)
     have n8_:=Aside0.mk (blk_below (g:=gb330) (o:=.cells #[.slice A0_0 l0_0.length c0_0,.slice A0_1 l0_1.length c0_1] 25 (0,0)) qz10 hb)
     have n9_:=Aside0.mk (blk_below (g:=gb349) (o:=.cells #[.slice Ao101 t343.length co101,.slice Ao104 t346.length co104] 33 (0,0)) qz47 hb)
     have n10_:=Aside0.mk (below_step qz9 hb)
     clear HO335 HO338 HO341 HO345 HO348 HO352 HO356 HO359 BK330 BK349 HB
     have HO335:=n0_
     have HO338:=n1_
     have HO341:=n2_
     have HO345:=n3_
     have HO348:=n4_
     have HO352:=n5_
     have HO356:=n6_
     have HO359:=n7_
     have BK330:=n8_
     have BK349:=n9_
     have HB:=n10_
     clear n0_ n1_ n2_ n3_ n4_ n5_ n6_ n7_ n8_ n9_ n10_
     (try clear hb)
     (try clear hb2)
     (try clear hk)
     (try clear hi)
     refine hK.out _ _ ⟨(blk_cell BK349.out 0).trans rfl,(blk_cell BK349.out 1).trans rfl,(blk_cell BK330.out 0).trans rfl,(blk_cell BK330.out 1).trans rfl⟩ (fun hHeld=>?_)
     clear hK K
     refine norm_ (a':=?_) ?_ ?_
     rotate_left
     ·show Act.put _ (some 38) _=_
      simp only [Act.put,List.setIfInBounds_toArray,List.set_cons_zero,List.set_cons_succ,i64_w,i32_w]
      rfl
     refine pure_ (i:=4) (N:=some 39) (v:=?_) (a':=?_) #[true,true,true,true,true] rfl rfl (by kernel_rfl) (fun _ _ _ h=>h) (Or.inl ⟨by rfl,?_⟩) ?_ ?_
     rotate_left
     ·intro w'
      go_simp
      with_reducible rfl
     rotate_left
     ·simp only [Act.put,List.setIfInBounds_toArray,List.set_cons_zero,List.set_cons_succ,i64_w,i32_w]
      rfl
     refine done_ (by kernel_rfl) ?_
     try go_wp2
     go_ret
     exact ⟨qz3,qz9⟩
   ·rw [if_neg c20] at H
    have c20b0:(t353 == t342)=false:=beq_eq_false_iff_ne.mpr c20
    have c20b1:(t353 != t342)=true:=bne_iff_ne.mpr c20
    obtain rfl:=Option.some.inj H
    go_enter Tryd.func3,Tryd.ntmps3
    go_wp2_with (first|((with_reducible refine gate_dst (N:=2) rfl ?_);refine box_event ?hg (N:=2) ?hd (cs:=#[.slice A0_0 l0_0.length c0_0,.slice A0_1 l0_1.length c0_1]) (t:=25) ?hr ?_;(case hd=>rfl);(case hg=>rfl);(case hr=>first|(go_simp;done)|(go_simp;rfl));intro gb330 hg w114 hbox hb;have n0_:=Aside0.mk (below_step qz1 hb);have n1_:=Aside0.mk (hbox);have n2_:=Aside0.mk ((by rw [hg];exact (below_size qz1):w.heap.size≤gb330));have n3_:=Aside0.mk ((by rw [hg];exact (below_size qz1):w.heap.size≤gb330));clear HB;have HB:=n0_;have BK330:=n1_;have GW330:=n2_;have GE330:=n3_;clear n0_ n1_ n2_ n3_ hb hbox hg;have hcz115_0:w114.cell? ⟨gb330,0,none⟩=some (.slice A0_0 l0_0.length c0_0):=(blk_cell BK330.out 0).trans rfl;have hcz115_1:w114.cell? ⟨gb330,1,none⟩=some (.slice A0_1 l0_1.length c0_1):=(blk_cell BK330.out 1).trans rfl;have hfz115_0:=blk_frozen BK330.out 0;have hfz115_1:=blk_frozen BK330.out 1)|((with_reducible refine gate_callee (f:=6) rfl ?_);refine goesL_ (some 12) rfl rfl Tryd.func6 (by kernel_rfl) rfl #[.agg #[.slice A0_0 l0_0.length c0_0,.slice A0_1 l0_1.length c0_1],.int .i64 1048576] rfl qz2 ?_;(with_reducible refine (laws_szPrgProg.calls k _ _ l0_0 _ _ l0_1 1048576 t331 _ ?side1 ?side2 ?side3 ?side4 A3.out).mono ?_);(case side1=>exact qz8);(case side2=>exact HC0_0.out);(case side3=>exact qz5);(case side4=>exact HC0_1.out);rintro e w116 ⟨rfl,hb⟩;refine ⟨_,rfl,?_⟩;have n0_:=Aside0.mk (blk_below (g:=gb330) (o:=.cells #[.slice A0_0 l0_0.length c0_0,.slice A0_1 l0_1.length c0_1] 25 (0,0)) qz10 hb);have n1_:=Aside0.mk (below_step qz6 hb);clear BK330 HB;have BK330:=n0_;have HB:=n1_;clear n0_ n1_;(try clear hb);(try clear hb2);(try clear hk);(try clear hi))|((with_reducible refine gate_callee (f:=7) rfl ?_);refine goesL_ (some 17) rfl rfl Tryd.func7 (by kernel_rfl) rfl #[.slice A1 l1.length c1,.int .i64 t331] rfl qz2 ?_;(with_reducible refine (laws_szTrmCellS.calls k _ _ l1 t331 t332 _ ?side1 ?side2 A8.out).mono ?_);(case side1=>exact qz26);(case side2=>exact HC1.out);rintro e w117 ⟨rfl,hb⟩;refine ⟨_,rfl,?_⟩;have n0_:=Aside0.mk (blk_below (g:=gb330) (o:=.cells #[.slice A0_0 l0_0.length c0_0,.slice A0_1 l0_1.length c0_1] 25 (0,0)) qz10 hb);have n1_:=Aside0.mk (below_step qz6 hb);clear BK330 HB;have BK330:=n0_;have HB:=n1_;clear n0_ n1_;(try clear hb);(try clear hb2);(try clear hk);(try clear hi);have hcz118_0:w117.cell? ⟨gb330,0,none⟩=some (.slice A0_0 l0_0.length c0_0):=(blk_cell BK330.out 0).trans rfl;have hcz118_1:w117.cell? ⟨gb330,1,none⟩=some (.slice A0_1 l0_1.length c0_1):=(blk_cell BK330.out 1).trans rfl;have hfz118_0:=blk_frozen BK330.out 0;have hfz118_1:=blk_frozen BK330.out 1)|((with_reducible refine gate_callee (f:=9) rfl ?_);refine goesL_ (some 21) rfl rfl Tryd.func9 (by kernel_rfl) rfl #[.agg #[.slice A0_0 l0_0.length c0_0,.slice A0_1 l0_1.length c0_1]] rfl qz2 ?_;(with_reducible refine (laws_toPrgProg.calls k _ _ l0_0 _ _ l0_1 t333 t336 _ ?side1 ?side2 ?side3 ?side4 A14.out).mono ?_);(case side1=>exact qz8);(case side2=>exact HC0_0.out);(case side3=>exact qz5);(case side4=>exact HC0_1.out);rintro e w119 ⟨v334,v337,rfl,ho0,ho1,hb⟩;refine ⟨_,rfl,?_⟩;have n0_:=Aside0.mk (Kd.R_lower ho0 (below_size qz6));have n1_:=Aside0.mk (Kd.R_lower ho1 (below_size qz6));have n2_:=Aside0.mk (blk_below (g:=gb330) (o:=.cells #[.slice A0_0 l0_0.length c0_0,.slice A0_1 l0_1.length c0_1] 25 (0,0)) qz10 hb);have n3_:=Aside0.mk (below_step qz6 hb);clear BK330 HB;have HO335:=n0_;have HO338:=n1_;have BK330:=n2_;have HB:=n3_;clear n0_ n1_ n2_ n3_;(try clear hb);(try clear hb2);(try clear hk);(try clear hi);(try clear ho0);(try clear ho1))|((with_reducible refine gate_callee (f:=10) rfl ?_);refine goesL_ (some 23) rfl rfl Tryd.func10 (by kernel_rfl) rfl #[.slice A1 l1.length c1] rfl qz2 ?_;(with_reducible refine (laws_toTrmCellS.calls k _ _ l1 t339 _ ?side1 ?side2 A15.out).mono ?_);(case side1=>exact qz26);(case side2=>exact HC1.out);rintro e w120 ⟨v340,rfl,ho0,hb⟩;refine ⟨_,rfl,?_⟩;have n0_:=Aside0.mk (Kd.R_elder' qz17 (Kd.R_base ho0) hb);have n1_:=Aside0.mk (Kd.R_below qz16 hb);have n2_:=Aside0.mk (Kd.R_lower ho0 (below_size qz6));have n3_:=Aside0.mk (blk_below (g:=gb330) (o:=.cells #[.slice A0_0 l0_0.length c0_0,.slice A0_1 l0_1.length c0_1] 25 (0,0)) qz10 hb);have n4_:=Aside0.mk (below_step qz6 hb);clear HO335 HO338 BK330 HB;have HO335:=n0_;have HO338:=n1_;have HO341:=n2_;have BK330:=n3_;have HB:=n4_;clear n0_ n1_ n2_ n3_ n4_;(try clear hb);(try clear hb2);(try clear hk);(try clear hi);(try clear ho0);obtain ⟨Ao121,co121,eo121⟩:=Kd.R_slice HO335.out;subst eo121;obtain ⟨Ao122,co122,eo122⟩:=Kd.R_slice HO338.out;subst eo122;obtain ⟨Ao123,co123,eo123⟩:=Kd.R_slice HO341.out;subst eo123)|((with_reducible refine gate_callee (f:=8) rfl ?_);refine goesL_ (some 24) rfl rfl Tryd.func8 (by kernel_rfl) rfl #[.agg #[.slice Ao121 t333.length co121,.slice Ao122 t336.length co122],.slice Ao123 t339.length co123] rfl qz2 ?_;(with_reducible refine (spec_PrgNode.calls k _ _ t333 _ _ t336 _ _ t339 t342 _ ?side1 ?side2 ?side3 ?side4 ?side5 ?side6 A16.out).mono ?_);(case side1=>exact qz102);(case side2=>exact (Kd.R_reads' HO335.out).2.1);(case side3=>exact qz101);(case side4=>exact (Kd.R_reads' HO338.out).2.1);(case side5=>exact qz100);(case side6=>exact (Kd.R_reads' HO341.out).2.1);rintro e w124 ⟨rfl,hb⟩;refine ⟨_,rfl,?_⟩;have n0_:=Aside0.mk (Kd.R_below qz17 hb);have n1_:=Aside0.mk (Kd.R_below qz16 hb);have n2_:=Aside0.mk (Kd.R_below qz18 hb);have n3_:=Aside0.mk (blk_below (g:=gb330) (o:=.cells #[.slice A0_0 l0_0.length c0_0,.slice A0_1 l0_1.length c0_1] 25 (0,0)) qz10 hb);have n4_:=Aside0.mk (below_step qz6 hb);clear HO335 HO338 HO341 BK330 HB;have HO335:=n0_;have HO338:=n1_;have HO341:=n2_;have BK330:=n3_;have HB:=n4_;clear n0_ n1_ n2_ n3_ n4_;(try clear hb);(try clear hb2);(try clear hk);(try clear hi);have hcz125_0:w124.cell? ⟨gb330,0,none⟩=some (.slice A0_0 l0_0.length c0_0):=(blk_cell BK330.out 0).trans rfl;have hcz125_1:w124.cell? ⟨gb330,1,none⟩=some (.slice A0_1 l0_1.length c0_1):=(blk_cell BK330.out 1).trans rfl;have hfz125_0:=blk_frozen BK330.out 0;have hfz125_1:=blk_frozen BK330.out 1)|((with_reducible refine gate_callee (f:=9) rfl ?_);refine goesL_ (some 26) rfl rfl Tryd.func9 (by kernel_rfl) rfl #[.agg #[.slice A0_0 l0_0.length c0_0,.slice A0_1 l0_1.length c0_1]] rfl qz2 ?_;(with_reducible refine (laws_toPrgProg.calls k _ _ l0_0 _ _ l0_1 t343 t346 _ ?side1 ?side2 ?side3 ?side4 A17.out).mono ?_);(case side1=>exact qz8);(case side2=>exact HC0_0.out);(case side3=>exact qz5);(case side4=>exact HC0_1.out);rintro e w126 ⟨v344,v347,rfl,ho0,ho1,hb⟩;refine ⟨_,rfl,?_⟩;have n0_:=Aside0.mk (Kd.R_elder' qz17 (Kd.R_base ho0) hb);have n1_:=Aside0.mk (Kd.R_elder' qz16 (Kd.R_base ho1) hb);have n2_:=Aside0.mk (Kd.R_below qz18 hb);have n3_:=Aside0.mk (Kd.R_lower (Kd.R_new' (Kd.R_new' ho0 (Kd.R_lt qz17)) (Kd.R_lt qz18)) (below_size qz6));have n4_:=Aside0.mk (Kd.R_lower (Kd.R_new' ho1 (Kd.R_lt qz16)) (below_size qz6));have n5_:=Aside0.mk (blk_below (g:=gb330) (o:=.cells #[.slice A0_0 l0_0.length c0_0,.slice A0_1 l0_1.length c0_1] 25 (0,0)) qz10 hb);have n6_:=Aside0.mk (below_step qz6 hb);clear HO335 HO338 HO341 BK330 HB;have HO335:=n0_;have HO338:=n1_;have HO341:=n2_;have HO345:=n3_;have HO348:=n4_;have BK330:=n5_;have HB:=n6_;clear n0_ n1_ n2_ n3_ n4_ n5_ n6_;(try clear hb);(try clear hb2);(try clear hk);(try clear hi);(try clear ho0);(try clear ho1))|((with_reducible refine gate_dst (N:=7) rfl ?_);refine box_event ?hg (N:=7) ?hd (cs:=#[.slice none 0 0,.slice none 0 0]) (t:=33) ?hr ?_;(case hd=>rfl);(case hg=>rfl);(case hr=>first|(go_simp;done)|(go_simp;rfl));intro gb349 hg w127 hbox hb;have n0_:=Aside0.mk (Kd.R_below qz17 hb);have n1_:=Aside0.mk (Kd.R_below qz16 hb);have n2_:=Aside0.mk (Kd.R_below qz18 hb);have n3_:=Aside0.mk (Kd.R_below qz37 hb);have n4_:=Aside0.mk (Kd.R_below qz36 hb);have n5_:=Aside0.mk (blk_below (g:=gb330) (o:=.cells #[.slice A0_0 l0_0.length c0_0,.slice A0_1 l0_1.length c0_1] 25 (0,0)) qz10 hb);have n6_:=Aside0.mk (below_step qz6 hb);have n7_:=Aside0.mk (hbox);have n8_:=Aside0.mk ((by rw [hg];exact (below_size qz6):w.heap.size≤gb349));have n9_:=Aside0.mk ((by rw [hg];exact (below_size qz6):w.heap.size≤gb349));have n10_:=Aside0.mk ((by rw [hg];exact Nat.ne_of_lt (blk_lt (g:=gb330) (o:=.cells #[.slice A0_0 l0_0.length c0_0,.slice A0_1 l0_1.length c0_1] 25 (0,0)) qz10):gb330≠gb349));have n11_:=Aside0.mk ((by rw [hg];exact Nat.ne_of_gt (blk_lt (g:=gb330) (o:=.cells #[.slice A0_0 l0_0.length c0_0,.slice A0_1 l0_1.length c0_1] 25 (0,0)) qz10):gb349≠gb330));clear HO335 HO338 HO341 HO345 HO348 BK330 HB;have HO335:=n0_;have HO338:=n1_;have HO341:=n2_;have HO345:=n3_;have HO348:=n4_;have BK330:=n5_;have HB:=n6_;have BK349:=n7_;have GW349:=n8_;have GE349:=n9_;have NB330_349:=n10_;have NB349_330:=n11_;clear n0_ n1_ n2_ n3_ n4_ n5_ n6_ n7_ n8_ n9_ n10_ n11_ hb hbox hg;obtain ⟨Ao128,co128,eo128⟩:=Kd.R_slice HO345.out;subst eo128;have hnb129:=NB349_330.out;have hnc129:=NB330_349.out;have hcz130_0:w127.cell? ⟨gb349,0,none⟩=some (.slice none 0 0):=(blk_cell BK349.out 0).trans rfl;have hcz130_1:w127.cell? ⟨gb349,1,none⟩=some (.slice none 0 0):=(blk_cell BK349.out 1).trans rfl;have hfz130_0:=blk_frozen BK349.out 0;have hfz130_1:=blk_frozen BK349.out 1;obtain ⟨Ao131,co131,eo131⟩:=Kd.R_slice HO348.out;subst eo131)|((with_reducible refine gate_callee (f:=10) rfl ?_);refine goesL_ (some 28) rfl rfl Tryd.func10 (by kernel_rfl) rfl #[.slice A1 l1.length c1] rfl qz2 ?_;(with_reducible refine (laws_toTrmCellS.calls k _ _ l1 t350 _ ?side1 ?side2 A18.out).mono ?_);(case side1=>exact Kd.C_below HR1.out qz9);(case side2=>exact HC1.out);rintro e w132 ⟨v351,rfl,ho0,hb⟩;refine ⟨_,rfl,?_⟩;have n0_:=Aside0.mk (Kd.R_elder' (by (with_reducible repeat (first|apply Kd.R_alloc|apply Kd.R_drewN|apply Kd.R_drew));exact (Kd.R_mono (Kd.R_far (p:=⟨gb349,1,none⟩) (Kd.R_far (p:=⟨gb349,0,none⟩) (Kd.R_types HO335.out BK349.out (by decide)) (fun _ hk=>hk.2) (.slice Ao128 t343.length co128)) (fun _ hk=>hk.2) (.slice Ao131 t346.length co131)) (fun _ h_=>h_.1))) (Kd.R_base ho0) hb);have n1_:=Aside0.mk (Kd.R_below (by (with_reducible repeat (first|apply Kd.R_alloc|apply Kd.R_drewN|apply Kd.R_drew));exact (Kd.R_mono (Kd.R_far (p:=⟨gb349,1,none⟩) (Kd.R_far (p:=⟨gb349,0,none⟩) (Kd.R_types HO338.out BK349.out (by decide)) (fun _ hk=>hk.2) (.slice Ao128 t343.length co128)) (fun _ hk=>hk.2) (.slice Ao131 t346.length co131)) (fun _ h_=>h_.1))) hb);have n2_:=Aside0.mk (Kd.R_elder' qz117 (Kd.R_base ho0) hb);have n3_:=Aside0.mk (Kd.R_elder' (by (with_reducible repeat (first|apply Kd.R_alloc|apply Kd.R_drewN|apply Kd.R_drew));exact (Kd.R_mono (Kd.R_far (p:=⟨gb349,1,none⟩) (Kd.R_far (p:=⟨gb349,0,none⟩) (Kd.R_types HO345.out BK349.out (by decide)) (fun _ hk=>hk.2) (.slice Ao128 t343.length co128)) (fun _ hk=>hk.2) (.slice Ao131 t346.length co131)) (fun _ h_=>h_.1))) (Kd.R_base ho0) hb);have n4_:=Aside0.mk (Kd.R_below (by (with_reducible repeat (first|apply Kd.R_alloc|apply Kd.R_drewN|apply Kd.R_drew));exact (Kd.R_mono (Kd.R_far (p:=⟨gb349,1,none⟩) (Kd.R_far (p:=⟨gb349,0,none⟩) (Kd.R_types HO348.out BK349.out (by decide)) (fun _ hk=>hk.2) (.slice Ao128 t343.length co128)) (fun _ hk=>hk.2) (.slice Ao131 t346.length co131)) (fun _ h_=>h_.1))) hb);have n5_:=Aside0.mk (Kd.R_lower (Kd.R_new' ho0 (Kd.R_lt qz117)) (below_size qz9));have n6_:=Aside0.mk (blk_below (g:=gb330) (o:=.cells #[.slice A0_0 l0_0.length c0_0,.slice A0_1 l0_1.length c0_1] 25 (0,0)) qz62 hb);have n7_:=Aside0.mk (blk_below (g:=gb349) (o:=.cells #[.slice Ao128 t343.length co128,.slice Ao131 t346.length co131] 33 (0,0)) (by (with_reducible repeat (first|refine blk_drewN ?_ _|refine blk_drew ?_|refine blk_alloc ?_ _));refine blk_put (cs:=#[.slice Ao128 t343.length co128,.slice none 0 0]) ?_ 1 _ rfl;(with_reducible repeat (first|refine blk_drewN ?_ _|refine blk_drew ?_|refine blk_alloc ?_ _));refine blk_put (cs:=#[.slice none 0 0,.slice none 0 0]) ?_ 0 _ rfl;(with_reducible repeat (first|refine blk_drewN ?_ _|refine blk_drew ?_|refine blk_alloc ?_ _));exact BK349.out) hb);have n8_:=Aside0.mk (below_step qz9 hb);clear HO335 HO338 HO341 HO345 HO348 BK330 BK349 HB;have HO335:=n0_;have HO338:=n1_;have HO341:=n2_;have HO345:=n3_;have HO348:=n4_;have HO352:=n5_;have BK330:=n6_;have BK349:=n7_;have HB:=n8_;clear n0_ n1_ n2_ n3_ n4_ n5_ n6_ n7_ n8_;(try clear hb);(try clear hb2);(try clear hk);(try clear hi);(try clear ho0);have hcz133_0:w132.cell? ⟨gb349,0,none⟩=some (.slice Ao128 t343.length co128):=(blk_cell BK349.out 0).trans rfl;have hcz133_1:w132.cell? ⟨gb349,1,none⟩=some (.slice Ao131 t346.length co131):=(blk_cell BK349.out 1).trans rfl;have hfz133_0:=blk_frozen BK349.out 0;have hfz133_1:=blk_frozen BK349.out 1;obtain ⟨Ao134,co134,eo134⟩:=Kd.R_slice HO352.out;subst eo134)|((with_reducible refine gate_callee (f:=11) rfl ?_);refine goesL_ (some 31) rfl rfl Tryd.func11 (by kernel_rfl) rfl #[.agg #[.slice Ao128 t343.length co128,.slice Ao131 t346.length co131],.slice Ao134 t350.length co134] rfl qz2 ?_;(with_reducible refine (impl_PrgNode.calls k _ _ t343 _ _ t346 _ _ t350 t353 _ ?side1 ?side2 ?side3 ?side4 ?side5 ?side6 A19.out).mono ?_);(case side1=>exact qz73);(case side2=>exact (Kd.R_reads' HO345.out).2.1);(case side3=>exact qz72);(case side4=>exact (Kd.R_reads' HO348.out).2.1);(case side5=>exact qz82);(case side6=>exact (Kd.R_reads' HO352.out).2.1);rintro e w135 ⟨rfl,hb⟩;refine ⟨_,rfl,?_⟩;have n0_:=Aside0.mk (Kd.R_below qz17 hb);have n1_:=Aside0.mk (Kd.R_below qz16 hb);have n2_:=Aside0.mk (Kd.R_below qz18 hb);have n3_:=Aside0.mk (Kd.R_below qz37 hb);have n4_:=Aside0.mk (Kd.R_below qz36 hb);have n5_:=Aside0.mk (Kd.R_below qz41 hb);have n6_:=Aside0.mk (blk_below (g:=gb330) (o:=.cells #[.slice A0_0 l0_0.length c0_0,.slice A0_1 l0_1.length c0_1] 25 (0,0)) qz10 hb);have n7_:=Aside0.mk (blk_below (g:=gb349) (o:=.cells #[.slice Ao128 t343.length co128,.slice Ao131 t346.length co131] 33 (0,0)) qz47 hb);have n8_:=Aside0.mk (below_step qz9 hb);clear HO335 HO338 HO341 HO345 HO348 HO352 BK330 BK349 HB;have HO335:=n0_;have HO338:=n1_;have HO341:=n2_;have HO345:=n3_;have HO348:=n4_;have HO352:=n5_;have BK330:=n6_;have BK349:=n7_;have HB:=n8_;clear n0_ n1_ n2_ n3_ n4_ n5_ n6_ n7_ n8_;(try clear hb);(try clear hb2);(try clear hk);(try clear hi)))
    go_ret
    exact ⟨qz3,qz9⟩

end Go.Proofs.YtepkgjcobocbpaaDoor.P
