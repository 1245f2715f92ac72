/- Contracts of functions of the program: each as a Lean function, and that its call does what that says; printed by cprint.py (this session) over print.py of the kit. Conditions: the hypotheses of each theorem. -/
import Derived.Test.YtlhniagacegbeaaDoorVZ
import Derived.Test.YtlhniagacegbeaaDoorP0
import Derived.Test.YtlhniagacegbeaaDoorP5
import Derived.Test.YtlhniagacegbeaaDoorP8
import Derived.Test.YtlhniagacegbeaaDoorP9
import Derived.Test.YtlhniagacegbeaaDoorP10
import Derived.Test.YtlhniagacegbeaaDoorP11
namespace Go.Proofs.YtlhniagacegbeaaDoor.P
open Go.RowKit Go.Proofs.YtlhniagacegbeaaDoorW.PrintWords Go.Proofs.YtlhniagacegbeaaDoorW.PrintLast Go.Proofs.YtlhniagacegbeaaDoorW.PrintMore
attribute [local go_sem] max2_int min2_int max_two min_two max_three min_three max_four min_four   -- for this text's walks alone
set_option linter.unusedVariables false
set_option linter.unusedSimpArgs false

/-! ### laws_FnExactGoalText: function 3 -/
def laws_FnExactGoalText.f (k:Nat) (a0_0:Int) (l0_1:List (S74)) (l0_2:List (S74)) (l0_3:List (S74)):Option (Bool):=(laws_szPrgGoal.f k a0_0 l0_1 l0_2 l0_3 1048576).bind fun t243=>(if t243<0 then (some true) else ((laws_toPrgGoal.f k a0_0 l0_1 l0_2 l0_3).bind fun bt244=>((spec_GoalText.f k bt244.1 bt244.2.1 bt244.2.2.1 bt244.2.2.2).bind fun t254=>((laws_toPrgGoal.f k a0_0 l0_1 l0_2 l0_3).bind fun bt255=>((impl_GoalText.f k bt255.1 bt255.2.1 bt255.2.2.1 bt255.2.2.2).bind fun t266=>(if t266.toList=t254.toList then ((laws_toPrgGoal.f k a0_0 l0_1 l0_2 l0_3).bind fun bt267=>((laws_eqPrgGoal.f k bt255.1 bt255.2.1 bt255.2.2.1 bt255.2.2.2 bt267.1 bt267.2.1 bt267.2.2.1 bt267.2.2.2).bind fun t277=>(if t277=true then (some true) else (some false)))) else (some false)))))))
set_option maxHeartbeats 8000000 in
set_option maxRecDepth 100000 in
theorem laws_FnExactGoalText.calls (k:Nat) (a0_0:Int) (A0_1:Option Addr) (c0_1:Nat) (l0_1:List (S74)) (A0_2:Option Addr) (c0_2:Nat) (l0_2:List (S74)) (A0_3:Option Addr) (c0_3:Nat) (l0_3:List (S74)) (r:Bool) (w:World) (hT_:TabT w) (hr0_1:Kd.C k74 w A0_1 l0_1.length l0_1) (hc0_1:l0_1.length≤c0_1) (hr0_2:Kd.C k74 w A0_2 l0_2.length l0_2) (hc0_2:l0_2.length≤c0_2) (hr0_3:Kd.C k74 w A0_3 l0_3.length l0_3) (hc0_3:l0_3.length≤c0_3) (h:laws_FnExactGoalText.f k a0_0 l0_1 l0_2 l0_3=some r) :
  Calls Tryd.prog 3 #[.agg #[.int .i64 a0_0,.slice A0_1 l0_1.length c0_1,.slice A0_2 l0_2.length c0_2,.slice A0_3 l0_3.length c0_3]] w fun e w'=>e = .returned (.bool r)∧Below w.heap.size w w':=by
 have HQT_:=Aside0.mk hT_
 clear hT_
 have hu24:=Tryd.underlying24
 have hu29:=Tryd.underlying29
 have HR0_1:=Aside0.mk hr0_1
 have HC0_1:=Aside0.mk hc0_1
 clear hr0_1 hc0_1
 have HR0_2:=Aside0.mk hr0_2
 have HC0_2:=Aside0.mk hc0_2
 clear hr0_2 hc0_2
 have HR0_3:=Aside0.mk hr0_3
 have HC0_3:=Aside0.mk hc0_3
 clear hr0_3 hc0_3
 have HB:=Aside0.mk (Below.refl w.heap.size w)
 have H:((laws_szPrgGoal.f k a0_0 l0_1 l0_2 l0_3 1048576).bind fun t243=>(if t243<0 then (some true) else ((laws_toPrgGoal.f k a0_0 l0_1 l0_2 l0_3).bind fun bt244=>((spec_GoalText.f k bt244.1 bt244.2.1 bt244.2.2.1 bt244.2.2.2).bind fun t254=>((laws_toPrgGoal.f k a0_0 l0_1 l0_2 l0_3).bind fun bt255=>((impl_GoalText.f k bt255.1 bt255.2.1 bt255.2.2.1 bt255.2.2.2).bind fun t266=>(if t266.toList=t254.toList then ((laws_toPrgGoal.f k a0_0 l0_1 l0_2 l0_3).bind fun bt267=>((laws_eqPrgGoal.f k bt255.1 bt255.2.1 bt255.2.2.1 bt255.2.2.2 bt267.1 bt267.2.1 bt267.2.2.1 bt267.2.2.2).bind fun t277=>(if t277=true then (some true) else (some false)))) else (some false))))))))=some r:=h
 clear h
 replace H:=Option.bind_eq_some_iff.mp H
 obtain ⟨t243,A20,H⟩:=H
 try dsimp only at H
 have A2:=Aside0.mk A20
 clear A20
 by_cases c3:t243<0
 ·rw [if_pos c3] at H
  have c3b0:decide (t243<0)=true:=decide_eq_true c3
  clear c3
  obtain rfl:=Option.some.inj H
  go_enter Tryd.func3,Tryd.ntmps3
  go_wp2_with (first|((with_reducible refine gate_dst (N:=1) rfl ?_);refine box_event ?hg (N:=1) ?hd (cs:=#[.int .i64 a0_0,.slice A0_1 l0_1.length c0_1,.slice A0_2 l0_2.length c0_2,.slice A0_3 l0_3.length c0_3]) (t:=24) ?hr ?_;(case hd=>rfl);(case hg=>rfl);(case hr=>first|(go_simp;done)|(go_simp;rfl));intro gb242 hg w4 hbox hb;have n0_:=Aside0.mk (below_step qz1 hb);have n1_:=Aside0.mk (hbox);have n2_:=Aside0.mk ((by rw [hg];exact (below_size qz1):w.heap.size≤gb242));have n3_:=Aside0.mk ((by rw [hg];exact (below_size qz1):w.heap.size≤gb242));clear HB;have HB:=n0_;have BK242:=n1_;have GW242:=n2_;have GE242:=n3_;clear n0_ n1_ n2_ n3_ hb hbox hg;have hcz5_0:w4.cell? ⟨gb242,0,none⟩=some (.int .i64 a0_0):=(blk_cell BK242.out 0).trans rfl;have hcz5_1:w4.cell? ⟨gb242,1,none⟩=some (.slice A0_1 l0_1.length c0_1):=(blk_cell BK242.out 1).trans rfl;have hcz5_2:w4.cell? ⟨gb242,2,none⟩=some (.slice A0_2 l0_2.length c0_2):=(blk_cell BK242.out 2).trans rfl;have hcz5_3:w4.cell? ⟨gb242,3,none⟩=some (.slice A0_3 l0_3.length c0_3):=(blk_cell BK242.out 3).trans rfl;have hfz5_0:=blk_frozen BK242.out 0;have hfz5_1:=blk_frozen BK242.out 1;have hfz5_2:=blk_frozen BK242.out 2;have hfz5_3:=blk_frozen BK242.out 3)|((with_reducible refine gate_callee (f:=5) rfl ?_);refine goesL_ (some 9) rfl rfl Tryd.func5 (by kernel_rfl) rfl #[.agg #[.int .i64 a0_0,.slice A0_1 l0_1.length c0_1,.slice A0_2 l0_2.length c0_2,.slice A0_3 l0_3.length c0_3],.int .i64 1048576] rfl qz2 ?_;(with_reducible refine (laws_szPrgGoal.calls k a0_0 _ _ l0_1 _ _ l0_2 _ _ l0_3 1048576 t243 _ ?side1 ?side2 ?side3 ?side4 ?side5 ?side6 A2.out).mono ?_);(case side1=>exact qz3);(case side2=>exact HC0_1.out);(case side3=>exact qz5);(case side4=>exact HC0_2.out);(case side5=>exact qz8);(case side6=>exact HC0_3.out);rintro e w6 ⟨rfl,hb⟩;refine ⟨_,rfl,?_⟩;have n0_:=Aside0.mk (blk_below (g:=gb242) (o:=.cells #[.int .i64 a0_0,.slice A0_1 l0_1.length c0_1,.slice A0_2 l0_2.length c0_2,.slice A0_3 l0_3.length c0_3] 24 (0,0)) qz15 hb);have n1_:=Aside0.mk (below_step qz7 hb);clear BK242 HB;have BK242:=n0_;have HB:=n1_;clear n0_ n1_;(try clear hb);(try clear hb2);(try clear hk);(try clear hi)))
  go_ret
  exact ⟨qz4,qz7⟩
 ·rw [if_neg c3] at H
  have c3b0:decide (t243<0)=false:=decide_eq_false c3
  clear c3
  replace H:=Option.bind_eq_some_iff.mp H
  obtain ⟨⟨t244,t245,t248,t251⟩,A70,H⟩:=H
  try dsimp only at H
  have A7:=Aside0.mk A70
  clear A70
  replace H:=Option.bind_eq_some_iff.mp H
  obtain ⟨t254,A80,H⟩:=H
  try dsimp only at H
  have A8:=Aside0.mk A80
  clear A80
  replace H:=Option.bind_eq_some_iff.mp H
  obtain ⟨⟨t255,t256,t259,t262⟩,A90,H⟩:=H
  try dsimp only at H
  have A9:=Aside0.mk A90
  clear A90
  replace H:=Option.bind_eq_some_iff.mp H
  obtain ⟨t266,A100,H⟩:=H
  try dsimp only at H
  have A10:=Aside0.mk A100
  clear A100
  by_cases c11:t266.toList=t254.toList
  ·rw [if_pos c11] at H
   have c11b0:(t266.toList == t254.toList)=true:=beq_iff_eq.mpr c11
   have c11b1:(t266.toList != t254.toList)=false:=bne_eq_false_iff_eq.mpr c11
   clear c11
   replace H:=Option.bind_eq_some_iff.mp H
   obtain ⟨⟨t267,t268,t271,t274⟩,A120,H⟩:=H
   try dsimp only at H
   have A12:=Aside0.mk A120
   clear A120
   replace H:=Option.bind_eq_some_iff.mp H
   obtain ⟨t277,A130,H⟩:=H
   try dsimp only at H
   have A13:=Aside0.mk A130
   clear A130
   by_cases c14:t277=true
   ·subst c14
    have H1:(some true)=some r:=qz42
    clear H
    have H:=H1
    clear H1
    obtain rfl:=Option.some.inj H
    go_enter Tryd.func3,Tryd.ntmps3
    try go_wp2_with (first|((with_reducible refine gate_dst (N:=1) rfl ?_);refine box_event ?hg (N:=1) ?hd (cs:=#[.int .i64 a0_0,.slice A0_1 l0_1.length c0_1,.slice A0_2 l0_2.length c0_2,.slice A0_3 l0_3.length c0_3]) (t:=24) ?hr ?_;(case hd=>rfl);(case hg=>rfl);(case hr=>first|(go_simp;done)|(go_simp;rfl));intro gb242 hg w15 hbox hb;have n0_:=Aside0.mk (below_step qz1 hb);have n1_:=Aside0.mk (hbox);have n2_:=Aside0.mk ((by rw [hg];exact (below_size qz1):w.heap.size≤gb242));have n3_:=Aside0.mk ((by rw [hg];exact (below_size qz1):w.heap.size≤gb242));clear HB;have HB:=n0_;have BK242:=n1_;have GW242:=n2_;have GE242:=n3_;clear n0_ n1_ n2_ n3_ hb hbox hg;have hcz16_0:w15.cell? ⟨gb242,0,none⟩=some (.int .i64 a0_0):=(blk_cell BK242.out 0).trans rfl;have hcz16_1:w15.cell? ⟨gb242,1,none⟩=some (.slice A0_1 l0_1.length c0_1):=(blk_cell BK242.out 1).trans rfl;have hcz16_2:w15.cell? ⟨gb242,2,none⟩=some (.slice A0_2 l0_2.length c0_2):=(blk_cell BK242.out 2).trans rfl;have hcz16_3:w15.cell? ⟨gb242,3,none⟩=some (.slice A0_3 l0_3.length c0_3):=(blk_cell BK242.out 3).trans rfl;have hfz16_0:=blk_frozen BK242.out 0;have hfz16_1:=blk_frozen BK242.out 1;have hfz16_2:=blk_frozen BK242.out 2;have hfz16_3:=blk_frozen BK242.out 3)|((with_reducible refine gate_callee (f:=5) rfl ?_);refine goesL_ (some 9) rfl rfl Tryd.func5 (by kernel_rfl) rfl #[.agg #[.int .i64 a0_0,.slice A0_1 l0_1.length c0_1,.slice A0_2 l0_2.length c0_2,.slice A0_3 l0_3.length c0_3],.int .i64 1048576] rfl qz2 ?_;(with_reducible refine (laws_szPrgGoal.calls k a0_0 _ _ l0_1 _ _ l0_2 _ _ l0_3 1048576 t243 _ ?side1 ?side2 ?side3 ?side4 ?side5 ?side6 A2.out).mono ?_);(case side1=>exact qz3);(case side2=>exact HC0_1.out);(case side3=>exact qz5);(case side4=>exact HC0_2.out);(case side5=>exact qz8);(case side6=>exact HC0_3.out);rintro e w17 ⟨rfl,hb⟩;refine ⟨_,rfl,?_⟩;have n0_:=Aside0.mk (blk_below (g:=gb242) (o:=.cells #[.int .i64 a0_0,.slice A0_1 l0_1.length c0_1,.slice A0_2 l0_2.length c0_2,.slice A0_3 l0_3.length c0_3] 24 (0,0)) qz15 hb);have n1_:=Aside0.mk (below_step qz7 hb);clear BK242 HB;have BK242:=n0_;have HB:=n1_;clear n0_ n1_;(try clear hb);(try clear hb2);(try clear hk);(try clear hi);have hcz18_0:w17.cell? ⟨gb242,0,none⟩=some (.int .i64 a0_0):=(blk_cell BK242.out 0).trans rfl;have hcz18_1:w17.cell? ⟨gb242,1,none⟩=some (.slice A0_1 l0_1.length c0_1):=(blk_cell BK242.out 1).trans rfl;have hcz18_2:w17.cell? ⟨gb242,2,none⟩=some (.slice A0_2 l0_2.length c0_2):=(blk_cell BK242.out 2).trans rfl;have hcz18_3:w17.cell? ⟨gb242,3,none⟩=some (.slice A0_3 l0_3.length c0_3):=(blk_cell BK242.out 3).trans rfl;have hfz18_0:=blk_frozen BK242.out 0;have hfz18_1:=blk_frozen BK242.out 1;have hfz18_2:=blk_frozen BK242.out 2;have hfz18_3:=blk_frozen BK242.out 3)|((with_reducible refine gate_callee (f:=7) rfl ?_);refine goesL_ (some 13) rfl rfl Tryd.func7 (by kernel_rfl) rfl #[.agg #[.int .i64 a0_0,.slice A0_1 l0_1.length c0_1,.slice A0_2 l0_2.length c0_2,.slice A0_3 l0_3.length c0_3]] rfl qz2 ?_;(with_reducible refine (laws_toPrgGoal.calls k a0_0 _ _ l0_1 _ _ l0_2 _ _ l0_3 t244 t245 t248 t251 _ ?side1 ?side2 ?side3 ?side4 ?side5 ?side6 A7.out).mono ?_);(case side1=>exact qz3);(case side2=>exact HC0_1.out);(case side3=>exact qz5);(case side4=>exact HC0_2.out);(case side5=>exact qz8);(case side6=>exact HC0_3.out);rintro e w19 ⟨v246,v249,v252,rfl,ho0,ho1,ho2,hb⟩;refine ⟨_,rfl,?_⟩;have n0_:=Aside0.mk (Kd.R_lower ho0 (below_size qz7));have n1_:=Aside0.mk (Kd.R_lower ho1 (below_size qz7));have n2_:=Aside0.mk (Kd.R_lower ho2 (below_size qz7));have n3_:=Aside0.mk (blk_below (g:=gb242) (o:=.cells #[.int .i64 a0_0,.slice A0_1 l0_1.length c0_1,.slice A0_2 l0_2.length c0_2,.slice A0_3 l0_3.length c0_3] 24 (0,0)) qz15 hb);have n4_:=Aside0.mk (below_step qz7 hb);clear BK242 HB;have HO247:=n0_;have HO250:=n1_;have HO253:=n2_;have BK242:=n3_;have HB:=n4_;clear n0_ n1_ n2_ n3_ n4_;(try clear hb);(try clear hb2);(try clear hk);(try clear hi);(try clear ho0);(try clear ho1);(try clear ho2);obtain ⟨Ao20,co20,eo20⟩:=Kd.R_slice HO247.out;subst eo20;obtain ⟨Ao21,co21,eo21⟩:=Kd.R_slice HO250.out;subst eo21;obtain ⟨Ao22,co22,eo22⟩:=Kd.R_slice HO253.out;subst eo22)|((with_reducible refine gate_callee (f:=6) rfl ?_);refine goesL_ (some 14) rfl rfl Tryd.func6 (by kernel_rfl) rfl #[.agg #[.int .i64 t244,.slice Ao20 t245.length co20,.slice Ao21 t248.length co21,.slice Ao22 t251.length co22]] rfl qz2 ?_;(with_reducible refine (spec_GoalText.calls k t244 _ _ t245 _ _ t248 _ _ t251 t254 _ ?side1 ?side2 ?side3 ?side4 ?side5 ?side6 A8.out).mono ?_);(case side1=>exact qz66);(case side2=>exact (Kd.R_reads' HO247.out).2.1);(case side3=>exact qz65);(case side4=>exact (Kd.R_reads' HO250.out).2.1);(case side5=>exact qz64);(case side6=>exact (Kd.R_reads' HO253.out).2.1);rintro e w23 ⟨rfl,hb⟩;refine ⟨_,rfl,?_⟩;have n0_:=Aside0.mk (Kd.R_below qz19 hb);have n1_:=Aside0.mk (Kd.R_below qz18 hb);have n2_:=Aside0.mk (Kd.R_below qz17 hb);have n3_:=Aside0.mk (blk_below (g:=gb242) (o:=.cells #[.int .i64 a0_0,.slice A0_1 l0_1.length c0_1,.slice A0_2 l0_2.length c0_2,.slice A0_3 l0_3.length c0_3] 24 (0,0)) qz15 hb);have n4_:=Aside0.mk (below_step qz7 hb);clear HO247 HO250 HO253 BK242 HB;have HO247:=n0_;have HO250:=n1_;have HO253:=n2_;have BK242:=n3_;have HB:=n4_;clear n0_ n1_ n2_ n3_ n4_;(try clear hb);(try clear hb2);(try clear hk);(try clear hi);have hcz24_0:w23.cell? ⟨gb242,0,none⟩=some (.int .i64 a0_0):=(blk_cell BK242.out 0).trans rfl;have hcz24_1:w23.cell? ⟨gb242,1,none⟩=some (.slice A0_1 l0_1.length c0_1):=(blk_cell BK242.out 1).trans rfl;have hcz24_2:w23.cell? ⟨gb242,2,none⟩=some (.slice A0_2 l0_2.length c0_2):=(blk_cell BK242.out 2).trans rfl;have hcz24_3:w23.cell? ⟨gb242,3,none⟩=some (.slice A0_3 l0_3.length c0_3):=(blk_cell BK242.out 3).trans rfl;have hfz24_0:=blk_frozen BK242.out 0;have hfz24_1:=blk_frozen BK242.out 1;have hfz24_2:=blk_frozen BK242.out 2;have hfz24_3:=blk_frozen BK242.out 3)|((with_reducible refine gate_callee (f:=7) rfl ?_);refine goesL_ (some 16) rfl rfl Tryd.func7 (by kernel_rfl) rfl #[.agg #[.int .i64 a0_0,.slice A0_1 l0_1.length c0_1,.slice A0_2 l0_2.length c0_2,.slice A0_3 l0_3.length c0_3]] rfl qz2 ?_;(with_reducible refine (laws_toPrgGoal.calls k a0_0 _ _ l0_1 _ _ l0_2 _ _ l0_3 t255 t256 t259 t262 _ ?side1 ?side2 ?side3 ?side4 ?side5 ?side6 A9.out).mono ?_);(case side1=>exact qz3);(case side2=>exact HC0_1.out);(case side3=>exact qz5);(case side4=>exact HC0_2.out);(case side5=>exact qz8);(case side6=>exact HC0_3.out);rintro e w25 ⟨v257,v260,v263,rfl,ho0,ho1,ho2,hb⟩;refine ⟨_,rfl,?_⟩;have n0_:=Aside0.mk (Kd.R_mono (Kd.R_told (Kd.R_told (Kd.R_told (Kd.R_old qz19 hb) (Kd.R_base ho0)) (Kd.R_base ho1)) (Kd.R_base ho2)) (fun _ h_=>h_.1));have n1_:=Aside0.mk (Kd.R_mono (Kd.R_told (Kd.R_told (Kd.R_told (Kd.R_old qz18 hb) (Kd.R_base ho0)) (Kd.R_base ho1)) (Kd.R_base ho2)) (fun _ h_=>h_.1));have n2_:=Aside0.mk (Kd.R_mono (Kd.R_told (Kd.R_told (Kd.R_told (Kd.R_old qz17 hb) (Kd.R_base ho0)) (Kd.R_base ho1)) (Kd.R_base ho2)) (fun _ h_=>h_.1));have n3_:=Aside0.mk (Kd.R_lower (Kd.R_new' (Kd.R_new' (Kd.R_new' ho0 (Kd.R_lt qz19)) (Kd.R_lt qz18)) (Kd.R_lt qz17)) (below_size qz7));have n4_:=Aside0.mk (Kd.R_lower (Kd.R_new' (Kd.R_new' (Kd.R_new' ho1 (Kd.R_lt qz19)) (Kd.R_lt qz18)) (Kd.R_lt qz17)) (below_size qz7));have n5_:=Aside0.mk (Kd.R_lower (Kd.R_new' (Kd.R_new' (Kd.R_new' ho2 (Kd.R_lt qz19)) (Kd.R_lt qz18)) (Kd.R_lt qz17)) (below_size qz7));have n6_:=Aside0.mk (blk_below (g:=gb242) (o:=.cells #[.int .i64 a0_0,.slice A0_1 l0_1.length c0_1,.slice A0_2 l0_2.length c0_2,.slice A0_3 l0_3.length c0_3] 24 (0,0)) qz15 hb);have n7_:=Aside0.mk (below_step qz7 hb);clear HO247 HO250 HO253 BK242 HB;have HO247:=n0_;have HO250:=n1_;have HO253:=n2_;have HO258:=n3_;have HO261:=n4_;have HO264:=n5_;have BK242:=n6_;have HB:=n7_;clear n0_ n1_ n2_ n3_ n4_ n5_ n6_ n7_;(try clear hb);(try clear hb2);(try clear hk);(try clear hi);(try clear ho0);(try clear ho1);(try clear ho2))|((with_reducible refine gate_dst (N:=5) rfl ?_);refine box_event ?hg (N:=5) ?hd (cs:=#[.int .i64 0,.slice none 0 0,.slice none 0 0,.slice none 0 0]) (t:=29) ?hr ?_;(case hd=>rfl);(case hg=>rfl);(case hr=>first|(go_simp;done)|(go_simp;rfl));intro gb265 hg w26 hbox hb;have n0_:=Aside0.mk (Kd.R_below qz19 hb);have n1_:=Aside0.mk (Kd.R_below qz18 hb);have n2_:=Aside0.mk (Kd.R_below qz17 hb);have n3_:=Aside0.mk (Kd.R_below qz35 hb);have n4_:=Aside0.mk (Kd.R_below qz34 hb);have n5_:=Aside0.mk (Kd.R_below qz33 hb);have n6_:=Aside0.mk (blk_below (g:=gb242) (o:=.cells #[.int .i64 a0_0,.slice A0_1 l0_1.length c0_1,.slice A0_2 l0_2.length c0_2,.slice A0_3 l0_3.length c0_3] 24 (0,0)) qz15 hb);have n7_:=Aside0.mk (below_step qz7 hb);have n8_:=Aside0.mk (hbox);have n9_:=Aside0.mk ((by rw [hg];exact (below_size qz7):w.heap.size≤gb265));have n10_:=Aside0.mk ((by rw [hg];exact (below_size qz7):w.heap.size≤gb265));have n11_:=Aside0.mk ((by rw [hg];exact Nat.ne_of_lt (blk_lt (g:=gb242) (o:=.cells #[.int .i64 a0_0,.slice A0_1 l0_1.length c0_1,.slice A0_2 l0_2.length c0_2,.slice A0_3 l0_3.length c0_3] 24 (0,0)) qz15):gb242≠gb265));have n12_:=Aside0.mk ((by rw [hg];exact Nat.ne_of_gt (blk_lt (g:=gb242) (o:=.cells #[.int .i64 a0_0,.slice A0_1 l0_1.length c0_1,.slice A0_2 l0_2.length c0_2,.slice A0_3 l0_3.length c0_3] 24 (0,0)) qz15):gb265≠gb242));clear HO247 HO250 HO253 HO258 HO261 HO264 BK242 HB;have HO247:=n0_;have HO250:=n1_;have HO253:=n2_;have HO258:=n3_;have HO261:=n4_;have HO264:=n5_;have BK242:=n6_;have HB:=n7_;have BK265:=n8_;have GW265:=n9_;have GE265:=n10_;have NB242_265:=n11_;have NB265_242:=n12_;clear n0_ n1_ n2_ n3_ n4_ n5_ n6_ n7_ n8_ n9_ n10_ n11_ n12_ hb hbox hg;have hnb27:=NB265_242.out;have hnc27:=NB242_265.out;have hcz28_0:w26.cell? ⟨gb265,0,none⟩=some (.int .i64 0):=(blk_cell BK265.out 0).trans rfl;have hcz28_1:w26.cell? ⟨gb265,1,none⟩=some (.slice none 0 0):=(blk_cell BK265.out 1).trans rfl;have hcz28_2:w26.cell? ⟨gb265,2,none⟩=some (.slice none 0 0):=(blk_cell BK265.out 2).trans rfl;have hcz28_3:w26.cell? ⟨gb265,3,none⟩=some (.slice none 0 0):=(blk_cell BK265.out 3).trans rfl;have hfz28_0:=blk_frozen BK265.out 0;have hfz28_1:=blk_frozen BK265.out 1;have hfz28_2:=blk_frozen BK265.out 2;have hfz28_3:=blk_frozen BK265.out 3;obtain ⟨Ao29,co29,eo29⟩:=Kd.R_slice HO258.out;subst eo29;obtain ⟨Ao30,co30,eo30⟩:=Kd.R_slice HO261.out;subst eo30;obtain ⟨Ao31,co31,eo31⟩:=Kd.R_slice HO264.out;subst eo31)|((with_reducible refine gate_callee (f:=8) rfl ?_);refine goesL_ (some 18) rfl rfl Tryd.func8 (by kernel_rfl) rfl #[.agg #[.int .i64 t255,.slice Ao29 t256.length co29,.slice Ao30 t259.length co30,.slice Ao31 t262.length co31]] rfl qz2 ?_;(with_reducible refine (impl_GoalText.calls (hT_:=HQT_.out.below qz13) k t255 _ _ t256 _ _ t259 _ _ t262 t266 _ ?side1 ?side2 ?side3 ?side4 ?side5 ?side6 A10.out).mono ?_);(case side1=>refine (Kd.R_reads' (e:=44) (base:=w.heap.size) (ok:=fun k_=>((((some k_≠(.slice Ao30 t259.length co30:Value).ownBlock∧some k_≠(.slice Ao31 t262.length co31:Value).ownBlock)∧some k_≠(.slice Ao20 t245.length co20:Value).ownBlock)∧some k_≠(.slice Ao21 t248.length co21:Value).ownBlock)∧some k_≠(.slice Ao22 t251.length co22:Value).ownBlock)) (n:=t256.length) (c:=co29) ?_).2.2;exact qz57);(case side2=>exact (Kd.R_reads' HO258.out).2.1);(case side3=>refine (Kd.R_reads' (e:=44) (base:=w.heap.size) (ok:=fun k_=>((((some k_≠(.slice Ao29 t256.length co29:Value).ownBlock∧some k_≠(.slice Ao31 t262.length co31:Value).ownBlock)∧some k_≠(.slice Ao20 t245.length co20:Value).ownBlock)∧some k_≠(.slice Ao21 t248.length co21:Value).ownBlock)∧some k_≠(.slice Ao22 t251.length co22:Value).ownBlock)) (n:=t259.length) (c:=co30) ?_).2.2;exact qz54);(case side4=>exact (Kd.R_reads' HO261.out).2.1);(case side5=>refine (Kd.R_reads' (e:=44) (base:=w.heap.size) (ok:=fun k_=>((((some k_≠(.slice Ao29 t256.length co29:Value).ownBlock∧some k_≠(.slice Ao30 t259.length co30:Value).ownBlock)∧some k_≠(.slice Ao20 t245.length co20:Value).ownBlock)∧some k_≠(.slice Ao21 t248.length co21:Value).ownBlock)∧some k_≠(.slice Ao22 t251.length co22:Value).ownBlock)) (n:=t262.length) (c:=co31) ?_).2.2;exact qz51);(case side6=>exact (Kd.R_reads' HO264.out).2.1);rintro e w32 ⟨rfl,hb⟩;refine ⟨_,rfl,?_⟩;have n0_:=Aside0.mk (Kd.R_below (by (with_reducible repeat (first|apply Kd.R_alloc|apply Kd.R_drewN|apply Kd.R_drew));exact (Kd.R_mono (Kd.R_far (p:=⟨gb265,3,none⟩) (Kd.R_far (p:=⟨gb265,2,none⟩) (Kd.R_far (p:=⟨gb265,1,none⟩) (Kd.R_far (p:=⟨gb265,0,none⟩) (Kd.R_types HO247.out BK265.out (by decide)) (fun _ hk=>hk.2) (.int .i64 t255)) (fun _ hk=>hk.2) (.slice Ao29 t256.length co29)) (fun _ hk=>hk.2) (.slice Ao30 t259.length co30)) (fun _ hk=>hk.2) (.slice Ao31 t262.length co31)) (fun _ h_=>h_.1))) hb);have n1_:=Aside0.mk (Kd.R_below (by (with_reducible repeat (first|apply Kd.R_alloc|apply Kd.R_drewN|apply Kd.R_drew));exact (Kd.R_mono (Kd.R_far (p:=⟨gb265,3,none⟩) (Kd.R_far (p:=⟨gb265,2,none⟩) (Kd.R_far (p:=⟨gb265,1,none⟩) (Kd.R_far (p:=⟨gb265,0,none⟩) (Kd.R_types HO250.out BK265.out (by decide)) (fun _ hk=>hk.2) (.int .i64 t255)) (fun _ hk=>hk.2) (.slice Ao29 t256.length co29)) (fun _ hk=>hk.2) (.slice Ao30 t259.length co30)) (fun _ hk=>hk.2) (.slice Ao31 t262.length co31)) (fun _ h_=>h_.1))) hb);have n2_:=Aside0.mk (Kd.R_below (by (with_reducible repeat (first|apply Kd.R_alloc|apply Kd.R_drewN|apply Kd.R_drew));exact (Kd.R_mono (Kd.R_far (p:=⟨gb265,3,none⟩) (Kd.R_far (p:=⟨gb265,2,none⟩) (Kd.R_far (p:=⟨gb265,1,none⟩) (Kd.R_far (p:=⟨gb265,0,none⟩) (Kd.R_types HO253.out BK265.out (by decide)) (fun _ hk=>hk.2) (.int .i64 t255)) (fun _ hk=>hk.2) (.slice Ao29 t256.length co29)) (fun _ hk=>hk.2) (.slice Ao30 t259.length co30)) (fun _ hk=>hk.2) (.slice Ao31 t262.length co31)) (fun _ h_=>h_.1))) hb);have n3_:=Aside0.mk (Kd.R_below qz57 hb);have n4_:=Aside0.mk (Kd.R_below qz54 hb);have n5_:=Aside0.mk (Kd.R_below qz51 hb);have n6_:=Aside0.mk (blk_below (g:=gb242) (o:=.cells #[.int .i64 a0_0,.slice A0_1 l0_1.length c0_1,.slice A0_2 l0_2.length c0_2,.slice A0_3 l0_3.length c0_3] 24 (0,0)) qz31 hb);have n7_:=Aside0.mk (blk_below (g:=gb265) (o:=.cells #[.int .i64 t255,.slice Ao29 t256.length co29,.slice Ao30 t259.length co30,.slice Ao31 t262.length co31] 29 (0,0)) (by (with_reducible repeat (first|refine blk_drewN ?_ _|refine blk_drew ?_|refine blk_alloc ?_ _));refine blk_put (cs:=#[.int .i64 t255,.slice Ao29 t256.length co29,.slice Ao30 t259.length co30,.slice none 0 0]) ?_ 3 _ rfl;(with_reducible repeat (first|refine blk_drewN ?_ _|refine blk_drew ?_|refine blk_alloc ?_ _));refine blk_put (cs:=#[.int .i64 t255,.slice Ao29 t256.length co29,.slice none 0 0,.slice none 0 0]) ?_ 2 _ rfl;(with_reducible repeat (first|refine blk_drewN ?_ _|refine blk_drew ?_|refine blk_alloc ?_ _));refine blk_put (cs:=#[.int .i64 t255,.slice none 0 0,.slice none 0 0,.slice none 0 0]) ?_ 1 _ rfl;(with_reducible repeat (first|refine blk_drewN ?_ _|refine blk_drew ?_|refine blk_alloc ?_ _));refine blk_put (cs:=#[.int .i64 0,.slice none 0 0,.slice none 0 0,.slice none 0 0]) ?_ 0 _ rfl;(with_reducible repeat (first|refine blk_drewN ?_ _|refine blk_drew ?_|refine blk_alloc ?_ _));exact BK265.out) hb);have n8_:=Aside0.mk (below_step qz13 hb);clear HO247 HO250 HO253 HO258 HO261 HO264 BK242 BK265 HB;have HO247:=n0_;have HO250:=n1_;have HO253:=n2_;have HO258:=n3_;have HO261:=n4_;have HO264:=n5_;have BK242:=n6_;have BK265:=n7_;have HB:=n8_;clear n0_ n1_ n2_ n3_ n4_ n5_ n6_ n7_ n8_;(try clear hb);(try clear hb2);(try clear hk);(try clear hi)))
    have n0_:=Aside0.mk (Kd.R_drew HO247.out)
    have n1_:=Aside0.mk (Kd.R_drew HO250.out)
    have n2_:=Aside0.mk (Kd.R_drew HO253.out)
    have n3_:=Aside0.mk (Kd.R_drew HO258.out)
    have n4_:=Aside0.mk (Kd.R_drew HO261.out)
    have n5_:=Aside0.mk (Kd.R_drew HO264.out)
    have n6_:=Aside0.mk (blk_drew BK242.out)
    have n7_:=Aside0.mk (blk_drew BK265.out)
    have n8_:=Aside0.mk (below_drew1 HB.out)
    clear HO247 HO250 HO253 HO258 HO261 HO264 BK242 BK265 HB
    have HO247:=n0_
    have HO250:=n1_
    have HO253:=n2_
    have HO258:=n3_
    have HO261:=n4_
    have HO264:=n5_
    have BK242:=n6_
    have BK265:=n7_
    have HB:=n8_
    clear n0_ n1_ n2_ n3_ n4_ n5_ n6_ n7_ n8_
    refine start_ (n:=5) (S:=fun w'=>w'.cell? ⟨gb265,0,none⟩=some (.int .i64 t255)∧w'.cell? ⟨gb265,1,none⟩=some (.slice Ao29 t256.length co29)∧w'.cell? ⟨gb265,2,none⟩=some (.slice Ao30 t259.length co30)∧w'.cell? ⟨gb265,3,none⟩=some (.slice Ao31 t262.length co31)∧w'.cell? ⟨gb242,0,none⟩=some (.int .i64 a0_0)∧w'.cell? ⟨gb242,1,none⟩=some (.slice A0_1 l0_1.length c0_1)∧w'.cell? ⟨gb242,2,none⟩=some (.slice A0_2 l0_2.length c0_2)∧w'.cell? ⟨gb242,3,none⟩=some (.slice A0_3 l0_3.length c0_3)) (ds:=[]) #[false,false,false,false,false] (by kernel_rfl) rfl rfl ⟨(blk_cell BK265.out 0).trans rfl,(blk_cell BK265.out 1).trans rfl,(blk_cell BK265.out 2).trans rfl,(blk_cell BK265.out 3).trans rfl,(blk_cell BK242.out 0).trans rfl,(blk_cell BK242.out 1).trans rfl,(blk_cell BK242.out 2).trans rfl,(blk_cell BK242.out 3).trans rfl⟩ (fun hHeld=>?_)
    generalize w32.drew=w33 at HO247 HO250 HO253 HO258 HO261 HO264 BK242 BK265 HB hHeld ⊢
    refine take_ (i:=0) (N:=some 22) (v:=?_) (a':=?_) #[true,false,false,false,false] rfl rfl (by kernel_rfl) (fun _ _ _ h=>h) (Or.inl ⟨by rfl,?_⟩) hHeld ?_ ?_
    rotate_left
    ·rintro w' ⟨s0,s1,s2,s3,s4,s5,s6,s7⟩
     go_simp
     with_reducible rfl
    rotate_left
    ·simp only [Act.put,List.setIfInBounds_toArray,List.set_cons_zero,List.set_cons_succ,i64_w,i32_w]
     rfl
    refine take_ (i:=1) (N:=some 23) (v:=?_) (a':=?_) #[true,true,false,false,false] rfl rfl (by kernel_rfl) (fun _ _ _ h=>h) (Or.inl ⟨by rfl,?_⟩) hHeld ?_ ?_
    rotate_left
    ·rintro w' ⟨s0,s1,s2,s3,s4,s5,s6,s7⟩
     go_simp
     with_reducible rfl
    rotate_left
    ·simp only [Act.put,List.setIfInBounds_toArray,List.set_cons_zero,List.set_cons_succ,i64_w,i32_w]
     rfl
    refine one_ (i:=2) (N:=some 24) #[true,true,true,false,false] rfl rfl (by kernel_rfl) (by decide) (fun K hK=>?_)
    refine goes_ Tryd.func7 (by kernel_rfl) rfl #[.agg #[.int .i64 a0_0,.slice A0_1 l0_1.length c0_1,.slice A0_2 l0_2.length c0_2,.slice A0_3 l0_3.length c0_3]] (by rfl) rfl rfl qz2 ?_
    with_reducible refine (laws_toPrgGoal.calls k a0_0 _ _ l0_1 _ _ l0_2 _ _ l0_3 t267 t268 t271 t274 _ ?side1 ?side2 ?side3 ?side4 ?side5 ?side6 A12.out).mono ?_
    (case side1=>exact qz3)
    (case side2=>exact HC0_1.out)
    (case side3=>exact qz5)
    (case side4=>exact HC0_2.out)
    (case side5=>exact qz8)
    (case side6=>exact HC0_3.out)
    rintro e w34 ⟨v269,v272,v275,rfl,ho0,ho1,ho2,hb⟩
    refine ⟨_,rfl,?_⟩
    have n0_:=Aside0.mk (Kd.R_mono (Kd.R_told (Kd.R_told (Kd.R_told (Kd.R_old qz19 hb) (Kd.R_base ho0)) (Kd.R_base ho1)) (Kd.R_base ho2)) (fun _ h_=>h_.1))
    have n1_:=Aside0.mk (Kd.R_mono (Kd.R_told (Kd.R_told (Kd.R_told (Kd.R_old qz18 hb) (Kd.R_base ho0)) (Kd.R_base ho1)) (Kd.R_base ho2)) (fun _ h_=>h_.1))
    have n2_:=Aside0.mk (Kd.R_mono (Kd.R_told (Kd.R_told (Kd.R_told (Kd.R_old qz17 hb) (Kd.R_base ho0)) (Kd.R_base ho1)) (Kd.R_base ho2)) (fun _ h_=>h_.1))
    have n3_:=Aside0.mk (Kd.R_mono (Kd.R_told (Kd.R_told (Kd.R_told (Kd.R_old qz35 hb) (Kd.R_base ho0)) (Kd.R_base ho1)) (Kd.R_base ho2)) (fun _ h_=>h_.1))
    have n4_:=Aside0.mk (Kd.R_mono (Kd.R_told (Kd.R_told (Kd.R_told (Kd.R_old qz34 hb) (Kd.R_base ho0)) (Kd.R_base ho1)) (Kd.R_base ho2)) (fun _ h_=>h_.1))
    have n5_:=Aside0.mk (Kd.R_mono (Kd.R_told (Kd.R_told (Kd.R_told (Kd.R_old qz33 hb) (Kd.R_base ho0)) (Kd.R_base ho1)) (Kd.R_base ho2)) (fun _ h_=>h_.1))
    have n6_:=Aside0.mk (Kd.R_lower (Kd.R_new' (Kd.R_new' (Kd.R_new' (Kd.R_new' (Kd.R_new' (Kd.R_new' ho0 (Kd.R_lt qz19)) (Kd.R_lt qz18)) (Kd.R_lt qz17)) (Kd.R_lt qz35)) (Kd.R_lt qz34)) (Kd.R_lt qz33)) (below_size qz13))
    have n7_:=Aside0.mk (Kd.R_lower (Kd.R_new' (Kd.R_new' (Kd.R_new' (Kd.R_new' (Kd.R_new' (Kd.R_new' ho1 (Kd.R_lt qz19)) (Kd.R_lt qz18)) (Kd.R_lt qz17)) (Kd.R_lt qz35)) (Kd.R_lt qz34)) (Kd.R_lt qz33)) (below_size qz13))
    have n8_:=Aside0.mk (Kd.R_lower (Kd.R_new' (Kd.R_new' (Kd.R_new' (Kd.R_new' (Kd.R_new' (Kd.R_new' ho2 (Kd.R_lt qz19)) (Kd.R_lt qz18)) (Kd.R_lt qz17)) (Kd.R_lt qz35)) (Kd.R_lt qz34)) (Kd.R_lt qz33)) (below_size qz13))
    have n9_:=Aside0.mk (blk_below (g:=gb242) (o:=.cells #[.int .i64 a0_0,.slice A0_1 l0_1.length c0_1,.slice A0_2 l0_2.length c0_2,.slice A0_3 l0_3.length c0_3] 24 (0,0)) qz15 hb)
    have n10_:=Aside0.mk (blk_below (g:=gb265) (o:=.cells #[.int .i64 t255,.slice Ao29 t256.length co29,.slice Ao30 t259.length co30,.slice Ao31 t262.length co31] 29 (0,0)) qz63 hb)
    have n11_:=Aside0.mk (below_step qz13 hb)
    clear HO247 HO250 HO253 HO258 HO261 HO264 BK242 BK265 HB
    have HO247:=n0_
    have HO250:=n1_
    have HO253:=n2_
    have HO258:=n3_
    have HO261:=n4_
    have HO264:=n5_
    have HO270:=n6_
    have HO273:=n7_
    have HO276:=n8_
    have BK242:=n9_
    have BK265:=n10_
    have HB:=n11_
    clear n0_ n1_ n2_ n3_ n4_ n5_ n6_ n7_ n8_ n9_ n10_ n11_
    (try clear hb)
    (try clear hb2)
    (try clear hk)
    (try clear hi)
    (try clear ho0)
    (try clear ho1)
    (try clear ho2)
    obtain ⟨Ao35,co35,eo35⟩:=Kd.R_slice HO270.out
    (first|subst eo35|(injection eo35 with f1_ f2_ f3_;have f4_:=f1_.symm;have f5_:=f3_.symm;clear f1_ f2_ f3_;subst f4_;subst f5_))
    obtain ⟨Ao36,co36,eo36⟩:=Kd.R_slice HO273.out
    (first|subst eo36|(injection eo36 with f1_ f2_ f3_;have f4_:=f1_.symm;have f5_:=f3_.symm;clear f1_ f2_ f3_;subst f4_;subst f5_))
    obtain ⟨Ao37,co37,eo37⟩:=Kd.R_slice HO276.out
    (first|subst eo37|(injection eo37 with f1_ f2_ f3_;have f4_:=f1_.symm;have f5_:=f3_.symm;clear f1_ f2_ f3_;subst f4_;subst f5_))
    refine hK.out _ _ ⟨(blk_cell BK265.out 0).trans rfl,(blk_cell BK265.out 1).trans rfl,(blk_cell BK265.out 2).trans rfl,(blk_cell BK265.out 3).trans rfl,(blk_cell BK242.out 0).trans rfl,(blk_cell BK242.out 1).trans rfl,(blk_cell BK242.out 2).trans rfl,(blk_cell BK242.out 3).trans rfl⟩ (fun hHeld=>?_)
    clear hK K
    refine norm_ (a':=?_) ?_ ?_
    rotate_left
    ·show Act.put _ (some 24) _=_
     simp only [Act.put,List.setIfInBounds_toArray,List.set_cons_zero,List.set_cons_succ,i64_w,i32_w]
     rfl
    refine one_ (i:=3) (N:=some 25) #[true,true,true,true,false] rfl rfl (by kernel_rfl) (by decide) (fun K hK=>?_)
    refine goes_ Tryd.func9 (by kernel_rfl) rfl #[.agg #[.int .i64 t255,.slice Ao29 t256.length co29,.slice Ao30 t259.length co30,.slice Ao31 t262.length co31],.agg #[.int .i64 t267,.slice Ao35 t268.length co35,.slice Ao36 t271.length co36,.slice Ao37 t274.length co37]] (by rfl) rfl rfl qz2 ?_
    with_reducible refine (laws_eqPrgGoal.calls k t255 _ _ t256 _ _ t259 _ _ t262 t267 _ _ t268 _ _ t271 _ _ t274 true _ ?side1 ?side2 ?side3 ?side4 ?side5 ?side6 ?side7 ?side8 ?side9 ?side10 ?side11 ?side12 A13.out).mono ?_
    (case side1=>exact qz87)
    (case side2=>exact (Kd.R_reads' HO258.out).2.1)
    (case side3=>exact qz86)
    (case side4=>exact (Kd.R_reads' HO261.out).2.1)
    (case side5=>exact qz85)
    (case side6=>exact (Kd.R_reads' HO264.out).2.1)
    (case side7=>exact qz84)
    (case side8=>exact (Kd.R_reads' HO270.out).2.1)
    (case side9=>exact qz83)
    (case side10=>exact (Kd.R_reads' HO273.out).2.1)
    (case side11=>exact qz82)
    (case side12=>exact (Kd.R_reads' HO276.out).2.1)
    rintro e w38 ⟨rfl,hb⟩
    refine ⟨_,rfl,?_⟩
    have n0_:=Aside0.mk (Kd.R_below qz19 hb)
    have n1_:=Aside0.mk (Kd.R_below qz18 hb)
    have n2_:=Aside0.mk (Kd.R_below qz17 hb)
    have n3_:=Aside0.mk (Kd.R_below qz35 hb)
    have n4_:=Aside0.mk (Kd.R_below qz34 hb)
    have n5_:=Aside0.mk (Kd.R_below qz33 hb)
    have n6_:=Aside0.mk (Kd.R_below (by (with_reducible repeat (first|apply Kd.R_alloc|apply Kd.R_drewN|apply Kd.R_drew));exact HO270.out) hb)
    have n7_:=Aside0.mk (Kd.R_below (by (with_reducible repeat (first|apply Kd.R_alloc|apply Kd.R_drewN|apply Kd.R_drew));exact HO273.out) hb)
    have n8_:=Aside0.mk (Kd.R_below (by (with_reducible repeat (first|apply Kd.R_alloc|apply Kd.R_drewN|apply Kd.R_drew));exact HO276.out) hb)
    have n9_:=Aside0.mk (blk_below (g:=gb242) (o:=.cells #[.int .i64 a0_0,.slice A0_1 l0_1.length c0_1,.slice A0_2 l0_2.length c0_2,.slice A0_3 l0_3.length c0_3] 24 (0,0)) qz15 hb)
    have n10_:=Aside0.mk (blk_below (g:=gb265) (o:=.cells #[.int .i64 t255,.slice Ao29 t256.length co29,.slice Ao30 t259.length co30,.slice Ao31 t262.length co31] 29 (0,0)) qz63 hb)
    have n11_:=Aside0.mk (below_step qz13 hb)
    clear HO247 HO250 HO253 HO258 HO261 HO264 HO270 HO273 HO276 BK242 BK265 HB
    have HO247:=n0_
    have HO250:=n1_
    have HO253:=n2_
    have HO258:=n3_
    have HO261:=n4_
    have HO264:=n5_
    have HO270:=n6_
    have HO273:=n7_
    have HO276:=n8_
    have BK242:=n9_
    have BK265:=n10_
    have HB:=n11_
    clear n0_ n1_ n2_ n3_ n4_ n5_ n6_ n7_ n8_ n9_ n10_ n11_
    (try clear hb)
    (try clear hb2)
    (try clear hk)
    (try clear hi)
    refine hK.out _ _ ⟨(blk_cell BK265.out 0).trans rfl,(blk_cell BK265.out 1).trans rfl,(blk_cell BK265.out 2).trans rfl,(blk_cell BK265.out 3).trans rfl,(blk_cell BK242.out 0).trans rfl,(blk_cell BK242.out 1).trans rfl,(blk_cell BK242.out 2).trans rfl,(blk_cell BK242.out 3).trans rfl⟩ (fun hHeld=>?_)
    clear hK K
    refine norm_ (a':=?_) ?_ ?_
    rotate_left
    ·show Act.put _ (some 25) _=_
     simp only [Act.put,List.setIfInBounds_toArray,List.set_cons_zero,List.set_cons_succ,i64_w,i32_w]
     rfl
    refine pure_ (i:=4) (N:=some 26) (v:=?_) (a':=?_) #[true,true,true,true,true] rfl rfl (by kernel_rfl) (fun _ _ _ h=>h) (Or.inl ⟨by rfl,?_⟩) ?_ ?_
    rotate_left
    ·intro w'
     go_simp
     with_reducible rfl
    rotate_left
    ·simp only [Act.put,List.setIfInBounds_toArray,List.set_cons_zero,List.set_cons_succ,i64_w,i32_w]
     rfl
    refine done_ (by kernel_rfl) ?_
    try go_wp2
    go_ret
    exact ⟨qz4,qz13⟩
   ·replace c14:=Bool.eq_false_iff.mpr c14
    subst c14
    have H1:(some false)=some r:=qz29
    clear H
    have H:=H1
    clear H1
    obtain rfl:=Option.some.inj H
    go_enter Tryd.func3,Tryd.ntmps3
    try go_wp2_with (first|((with_reducible refine gate_dst (N:=1) rfl ?_);refine box_event ?hg (N:=1) ?hd (cs:=#[.int .i64 a0_0,.slice A0_1 l0_1.length c0_1,.slice A0_2 l0_2.length c0_2,.slice A0_3 l0_3.length c0_3]) (t:=24) ?hr ?_;(case hd=>rfl);(case hg=>rfl);(case hr=>first|(go_simp;done)|(go_simp;rfl));intro gb242 hg w39 hbox hb;have n0_:=Aside0.mk (below_step qz1 hb);have n1_:=Aside0.mk (hbox);have n2_:=Aside0.mk ((by rw [hg];exact (below_size qz1):w.heap.size≤gb242));have n3_:=Aside0.mk ((by rw [hg];exact (below_size qz1):w.heap.size≤gb242));clear HB;have HB:=n0_;have BK242:=n1_;have GW242:=n2_;have GE242:=n3_;clear n0_ n1_ n2_ n3_ hb hbox hg;have hcz40_0:w39.cell? ⟨gb242,0,none⟩=some (.int .i64 a0_0):=(blk_cell BK242.out 0).trans rfl;have hcz40_1:w39.cell? ⟨gb242,1,none⟩=some (.slice A0_1 l0_1.length c0_1):=(blk_cell BK242.out 1).trans rfl;have hcz40_2:w39.cell? ⟨gb242,2,none⟩=some (.slice A0_2 l0_2.length c0_2):=(blk_cell BK242.out 2).trans rfl;have hcz40_3:w39.cell? ⟨gb242,3,none⟩=some (.slice A0_3 l0_3.length c0_3):=(blk_cell BK242.out 3).trans rfl;have hfz40_0:=blk_frozen BK242.out 0;have hfz40_1:=blk_frozen BK242.out 1;have hfz40_2:=blk_frozen BK242.out 2;have hfz40_3:=blk_frozen BK242.out 3)|((with_reducible refine gate_callee (f:=5) rfl ?_);refine goesL_ (some 9) rfl rfl Tryd.func5 (by kernel_rfl) rfl #[.agg #[.int .i64 a0_0,.slice A0_1 l0_1.length c0_1,.slice A0_2 l0_2.length c0_2,.slice A0_3 l0_3.length c0_3],.int .i64 1048576] rfl qz2 ?_;(with_reducible refine (laws_szPrgGoal.calls k a0_0 _ _ l0_1 _ _ l0_2 _ _ l0_3 1048576 t243 _ ?side1 ?side2 ?side3 ?side4 ?side5 ?side6 A2.out).mono ?_);(case side1=>exact qz3);(case side2=>exact HC0_1.out);(case side3=>exact qz5);(case side4=>exact HC0_2.out);(case side5=>exact qz8);(case side6=>exact HC0_3.out);rintro e w41 ⟨rfl,hb⟩;refine ⟨_,rfl,?_⟩;have n0_:=Aside0.mk (blk_below (g:=gb242) (o:=.cells #[.int .i64 a0_0,.slice A0_1 l0_1.length c0_1,.slice A0_2 l0_2.length c0_2,.slice A0_3 l0_3.length c0_3] 24 (0,0)) qz15 hb);have n1_:=Aside0.mk (below_step qz7 hb);clear BK242 HB;have BK242:=n0_;have HB:=n1_;clear n0_ n1_;(try clear hb);(try clear hb2);(try clear hk);(try clear hi);have hcz42_0:w41.cell? ⟨gb242,0,none⟩=some (.int .i64 a0_0):=(blk_cell BK242.out 0).trans rfl;have hcz42_1:w41.cell? ⟨gb242,1,none⟩=some (.slice A0_1 l0_1.length c0_1):=(blk_cell BK242.out 1).trans rfl;have hcz42_2:w41.cell? ⟨gb242,2,none⟩=some (.slice A0_2 l0_2.length c0_2):=(blk_cell BK242.out 2).trans rfl;have hcz42_3:w41.cell? ⟨gb242,3,none⟩=some (.slice A0_3 l0_3.length c0_3):=(blk_cell BK242.out 3).trans rfl;have hfz42_0:=blk_frozen BK242.out 0;have hfz42_1:=blk_frozen BK242.out 1;have hfz42_2:=blk_frozen BK242.out 2;have hfz42_3:=blk_frozen BK242.out 3)|((with_reducible refine gate_callee (f:=7) rfl ?_);refine goesL_ (some 13) rfl rfl Tryd.func7 (by kernel_rfl) rfl #[.agg #[.int .i64 a0_0,.slice A0_1 l0_1.length c0_1,.slice A0_2 l0_2.length c0_2,.slice A0_3 l0_3.length c0_3]] rfl qz2 ?_;(with_reducible refine (laws_toPrgGoal.calls k a0_0 _ _ l0_1 _ _ l0_2 _ _ l0_3 t244 t245 t248 t251 _ ?side1 ?side2 ?side3 ?side4 ?side5 ?side6 A7.out).mono ?_);(case side1=>exact qz3);(case side2=>exact HC0_1.out);(case side3=>exact qz5);(case side4=>exact HC0_2.out);(case side5=>exact qz8);(case side6=>exact HC0_3.out);rintro e w43 ⟨v246,v249,v252,rfl,ho0,ho1,ho2,hb⟩;refine ⟨_,rfl,?_⟩;have n0_:=Aside0.mk (Kd.R_lower ho0 (below_size qz7));have n1_:=Aside0.mk (Kd.R_lower ho1 (below_size qz7));have n2_:=Aside0.mk (Kd.R_lower ho2 (below_size qz7));have n3_:=Aside0.mk (blk_below (g:=gb242) (o:=.cells #[.int .i64 a0_0,.slice A0_1 l0_1.length c0_1,.slice A0_2 l0_2.length c0_2,.slice A0_3 l0_3.length c0_3] 24 (0,0)) qz15 hb);have n4_:=Aside0.mk (below_step qz7 hb);clear BK242 HB;have HO247:=n0_;have HO250:=n1_;have HO253:=n2_;have BK242:=n3_;have HB:=n4_;clear n0_ n1_ n2_ n3_ n4_;(try clear hb);(try clear hb2);(try clear hk);(try clear hi);(try clear ho0);(try clear ho1);(try clear ho2);obtain ⟨Ao44,co44,eo44⟩:=Kd.R_slice HO247.out;subst eo44;obtain ⟨Ao45,co45,eo45⟩:=Kd.R_slice HO250.out;subst eo45;obtain ⟨Ao46,co46,eo46⟩:=Kd.R_slice HO253.out;subst eo46)|((with_reducible refine gate_callee (f:=6) rfl ?_);refine goesL_ (some 14) rfl rfl Tryd.func6 (by kernel_rfl) rfl #[.agg #[.int .i64 t244,.slice Ao44 t245.length co44,.slice Ao45 t248.length co45,.slice Ao46 t251.length co46]] rfl qz2 ?_;(with_reducible refine (spec_GoalText.calls k t244 _ _ t245 _ _ t248 _ _ t251 t254 _ ?side1 ?side2 ?side3 ?side4 ?side5 ?side6 A8.out).mono ?_);(case side1=>exact qz66);(case side2=>exact (Kd.R_reads' HO247.out).2.1);(case side3=>exact qz65);(case side4=>exact (Kd.R_reads' HO250.out).2.1);(case side5=>exact qz64);(case side6=>exact (Kd.R_reads' HO253.out).2.1);rintro e w47 ⟨rfl,hb⟩;refine ⟨_,rfl,?_⟩;have n0_:=Aside0.mk (Kd.R_below qz19 hb);have n1_:=Aside0.mk (Kd.R_below qz18 hb);have n2_:=Aside0.mk (Kd.R_below qz17 hb);have n3_:=Aside0.mk (blk_below (g:=gb242) (o:=.cells #[.int .i64 a0_0,.slice A0_1 l0_1.length c0_1,.slice A0_2 l0_2.length c0_2,.slice A0_3 l0_3.length c0_3] 24 (0,0)) qz15 hb);have n4_:=Aside0.mk (below_step qz7 hb);clear HO247 HO250 HO253 BK242 HB;have HO247:=n0_;have HO250:=n1_;have HO253:=n2_;have BK242:=n3_;have HB:=n4_;clear n0_ n1_ n2_ n3_ n4_;(try clear hb);(try clear hb2);(try clear hk);(try clear hi);have hcz48_0:w47.cell? ⟨gb242,0,none⟩=some (.int .i64 a0_0):=(blk_cell BK242.out 0).trans rfl;have hcz48_1:w47.cell? ⟨gb242,1,none⟩=some (.slice A0_1 l0_1.length c0_1):=(blk_cell BK242.out 1).trans rfl;have hcz48_2:w47.cell? ⟨gb242,2,none⟩=some (.slice A0_2 l0_2.length c0_2):=(blk_cell BK242.out 2).trans rfl;have hcz48_3:w47.cell? ⟨gb242,3,none⟩=some (.slice A0_3 l0_3.length c0_3):=(blk_cell BK242.out 3).trans rfl;have hfz48_0:=blk_frozen BK242.out 0;have hfz48_1:=blk_frozen BK242.out 1;have hfz48_2:=blk_frozen BK242.out 2;have hfz48_3:=blk_frozen BK242.out 3)|((with_reducible refine gate_callee (f:=7) rfl ?_);refine goesL_ (some 16) rfl rfl Tryd.func7 (by kernel_rfl) rfl #[.agg #[.int .i64 a0_0,.slice A0_1 l0_1.length c0_1,.slice A0_2 l0_2.length c0_2,.slice A0_3 l0_3.length c0_3]] rfl qz2 ?_;(with_reducible refine (laws_toPrgGoal.calls k a0_0 _ _ l0_1 _ _ l0_2 _ _ l0_3 t255 t256 t259 t262 _ ?side1 ?side2 ?side3 ?side4 ?side5 ?side6 A9.out).mono ?_);(case side1=>exact qz3);(case side2=>exact HC0_1.out);(case side3=>exact qz5);(case side4=>exact HC0_2.out);(case side5=>exact qz8);(case side6=>exact HC0_3.out);rintro e w49 ⟨v257,v260,v263,rfl,ho0,ho1,ho2,hb⟩;refine ⟨_,rfl,?_⟩;have n0_:=Aside0.mk (Kd.R_mono (Kd.R_told (Kd.R_told (Kd.R_told (Kd.R_old qz19 hb) (Kd.R_base ho0)) (Kd.R_base ho1)) (Kd.R_base ho2)) (fun _ h_=>h_.1));have n1_:=Aside0.mk (Kd.R_mono (Kd.R_told (Kd.R_told (Kd.R_told (Kd.R_old qz18 hb) (Kd.R_base ho0)) (Kd.R_base ho1)) (Kd.R_base ho2)) (fun _ h_=>h_.1));have n2_:=Aside0.mk (Kd.R_mono (Kd.R_told (Kd.R_told (Kd.R_told (Kd.R_old qz17 hb) (Kd.R_base ho0)) (Kd.R_base ho1)) (Kd.R_base ho2)) (fun _ h_=>h_.1));have n3_:=Aside0.mk (Kd.R_lower (Kd.R_new' (Kd.R_new' (Kd.R_new' ho0 (Kd.R_lt qz19)) (Kd.R_lt qz18)) (Kd.R_lt qz17)) (below_size qz7));have n4_:=Aside0.mk (Kd.R_lower (Kd.R_new' (Kd.R_new' (Kd.R_new' ho1 (Kd.R_lt qz19)) (Kd.R_lt qz18)) (Kd.R_lt qz17)) (below_size qz7));have n5_:=Aside0.mk (Kd.R_lower (Kd.R_new' (Kd.R_new' (Kd.R_new' ho2 (Kd.R_lt qz19)) (Kd.R_lt qz18)) (Kd.R_lt qz17)) (below_size qz7));have n6_:=Aside0.mk (blk_below (g:=gb242) (o:=.cells #[.int .i64 a0_0,.slice A0_1 l0_1.length c0_1,.slice A0_2 l0_2.length c0_2,.slice A0_3 l0_3.length c0_3] 24 (0,0)) qz15 hb);have n7_:=Aside0.mk (below_step qz7 hb);clear HO247 HO250 HO253 BK242 HB;have HO247:=n0_;have HO250:=n1_;have HO253:=n2_;have HO258:=n3_;have HO261:=n4_;have HO264:=n5_;have BK242:=n6_;have HB:=n7_;clear n0_ n1_ n2_ n3_ n4_ n5_ n6_ n7_;(try clear hb);(try clear hb2);(try clear hk);(try clear hi);(try clear ho0);(try clear ho1);(try clear ho2))|((with_reducible refine gate_dst (N:=5) rfl ?_);refine box_event ?hg (N:=5) ?hd (cs:=#[.int .i64 0,.slice none 0 0,.slice none 0 0,.slice none 0 0]) (t:=29) ?hr ?_;(case hd=>rfl);(case hg=>rfl);(case hr=>first|(go_simp;done)|(go_simp;rfl));intro gb265 hg w50 hbox hb;have n0_:=Aside0.mk (Kd.R_below qz19 hb);have n1_:=Aside0.mk (Kd.R_below qz18 hb);have n2_:=Aside0.mk (Kd.R_below qz17 hb);have n3_:=Aside0.mk (Kd.R_below qz35 hb);have n4_:=Aside0.mk (Kd.R_below qz34 hb);have n5_:=Aside0.mk (Kd.R_below qz33 hb);have n6_:=Aside0.mk (blk_below (g:=gb242) (o:=.cells #[.int .i64 a0_0,.slice A0_1 l0_1.length c0_1,.slice A0_2 l0_2.length c0_2,.slice A0_3 l0_3.length c0_3] 24 (0,0)) qz15 hb);have n7_:=Aside0.mk (below_step qz7 hb);have n8_:=Aside0.mk (hbox);have n9_:=Aside0.mk ((by rw [hg];exact (below_size qz7):w.heap.size≤gb265));have n10_:=Aside0.mk ((by rw [hg];exact (below_size qz7):w.heap.size≤gb265));have n11_:=Aside0.mk ((by rw [hg];exact Nat.ne_of_lt (blk_lt (g:=gb242) (o:=.cells #[.int .i64 a0_0,.slice A0_1 l0_1.length c0_1,.slice A0_2 l0_2.length c0_2,.slice A0_3 l0_3.length c0_3] 24 (0,0)) qz15):gb242≠gb265));have n12_:=Aside0.mk ((by rw [hg];exact Nat.ne_of_gt (blk_lt (g:=gb242) (o:=.cells #[.int .i64 a0_0,.slice A0_1 l0_1.length c0_1,.slice A0_2 l0_2.length c0_2,.slice A0_3 l0_3.length c0_3] 24 (0,0)) qz15):gb265≠gb242));clear HO247 HO250 HO253 HO258 HO261 HO264 BK242 HB;have HO247:=n0_;have HO250:=n1_;have HO253:=n2_;have HO258:=n3_;have HO261:=n4_;have HO264:=n5_;have BK242:=n6_;have HB:=n7_;have BK265:=n8_;have GW265:=n9_;have GE265:=n10_;have NB242_265:=n11_;have NB265_242:=n12_;clear n0_ n1_ n2_ n3_ n4_ n5_ n6_ n7_ n8_ n9_ n10_ n11_ n12_ hb hbox hg;have hnb51:=NB265_242.out;have hnc51:=NB242_265.out;have hcz52_0:w50.cell? ⟨gb265,0,none⟩=some (.int .i64 0):=(blk_cell BK265.out 0).trans rfl;have hcz52_1:w50.cell? ⟨gb265,1,none⟩=some (.slice none 0 0):=(blk_cell BK265.out 1).trans rfl;have hcz52_2:w50.cell? ⟨gb265,2,none⟩=some (.slice none 0 0):=(blk_cell BK265.out 2).trans rfl;have hcz52_3:w50.cell? ⟨gb265,3,none⟩=some (.slice none 0 0):=(blk_cell BK265.out 3).trans rfl;have hfz52_0:=blk_frozen BK265.out 0;have hfz52_1:=blk_frozen BK265.out 1;have hfz52_2:=blk_frozen BK265.out 2;have hfz52_3:=blk_frozen BK265.out 3;obtain ⟨Ao53,co53,eo53⟩:=Kd.R_slice HO258.out;subst eo53;obtain ⟨Ao54,co54,eo54⟩:=Kd.R_slice HO261.out;subst eo54;obtain ⟨Ao55,co55,eo55⟩:=Kd.R_slice HO264.out;subst eo55)|((with_reducible refine gate_callee (f:=8) rfl ?_);refine goesL_ (some 18) rfl rfl Tryd.func8 (by kernel_rfl) rfl #[.agg #[.int .i64 t255,.slice Ao53 t256.length co53,.slice Ao54 t259.length co54,.slice Ao55 t262.length co55]] rfl qz2 ?_;(with_reducible refine (impl_GoalText.calls (hT_:=HQT_.out.below qz13) k t255 _ _ t256 _ _ t259 _ _ t262 t266 _ ?side1 ?side2 ?side3 ?side4 ?side5 ?side6 A10.out).mono ?_);(case side1=>refine (Kd.R_reads' (e:=44) (base:=w.heap.size) (ok:=fun k_=>((((some k_≠(.slice Ao54 t259.length co54:Value).ownBlock∧some k_≠(.slice Ao55 t262.length co55:Value).ownBlock)∧some k_≠(.slice Ao44 t245.length co44:Value).ownBlock)∧some k_≠(.slice Ao45 t248.length co45:Value).ownBlock)∧some k_≠(.slice Ao46 t251.length co46:Value).ownBlock)) (n:=t256.length) (c:=co53) ?_).2.2;exact qz56);(case side2=>exact (Kd.R_reads' HO258.out).2.1);(case side3=>refine (Kd.R_reads' (e:=44) (base:=w.heap.size) (ok:=fun k_=>((((some k_≠(.slice Ao53 t256.length co53:Value).ownBlock∧some k_≠(.slice Ao55 t262.length co55:Value).ownBlock)∧some k_≠(.slice Ao44 t245.length co44:Value).ownBlock)∧some k_≠(.slice Ao45 t248.length co45:Value).ownBlock)∧some k_≠(.slice Ao46 t251.length co46:Value).ownBlock)) (n:=t259.length) (c:=co54) ?_).2.2;exact qz53);(case side4=>exact (Kd.R_reads' HO261.out).2.1);(case side5=>refine (Kd.R_reads' (e:=44) (base:=w.heap.size) (ok:=fun k_=>((((some k_≠(.slice Ao53 t256.length co53:Value).ownBlock∧some k_≠(.slice Ao54 t259.length co54:Value).ownBlock)∧some k_≠(.slice Ao44 t245.length co44:Value).ownBlock)∧some k_≠(.slice Ao45 t248.length co45:Value).ownBlock)∧some k_≠(.slice Ao46 t251.length co46:Value).ownBlock)) (n:=t262.length) (c:=co55) ?_).2.2;exact qz50);(case side6=>exact (Kd.R_reads' HO264.out).2.1);rintro e w56 ⟨rfl,hb⟩;refine ⟨_,rfl,?_⟩;have n0_:=Aside0.mk (Kd.R_below (by (with_reducible repeat (first|apply Kd.R_alloc|apply Kd.R_drewN|apply Kd.R_drew));exact (Kd.R_mono (Kd.R_far (p:=⟨gb265,3,none⟩) (Kd.R_far (p:=⟨gb265,2,none⟩) (Kd.R_far (p:=⟨gb265,1,none⟩) (Kd.R_far (p:=⟨gb265,0,none⟩) (Kd.R_types HO247.out BK265.out (by decide)) (fun _ hk=>hk.2) (.int .i64 t255)) (fun _ hk=>hk.2) (.slice Ao53 t256.length co53)) (fun _ hk=>hk.2) (.slice Ao54 t259.length co54)) (fun _ hk=>hk.2) (.slice Ao55 t262.length co55)) (fun _ h_=>h_.1))) hb);have n1_:=Aside0.mk (Kd.R_below (by (with_reducible repeat (first|apply Kd.R_alloc|apply Kd.R_drewN|apply Kd.R_drew));exact (Kd.R_mono (Kd.R_far (p:=⟨gb265,3,none⟩) (Kd.R_far (p:=⟨gb265,2,none⟩) (Kd.R_far (p:=⟨gb265,1,none⟩) (Kd.R_far (p:=⟨gb265,0,none⟩) (Kd.R_types HO250.out BK265.out (by decide)) (fun _ hk=>hk.2) (.int .i64 t255)) (fun _ hk=>hk.2) (.slice Ao53 t256.length co53)) (fun _ hk=>hk.2) (.slice Ao54 t259.length co54)) (fun _ hk=>hk.2) (.slice Ao55 t262.length co55)) (fun _ h_=>h_.1))) hb);have n2_:=Aside0.mk (Kd.R_below (by (with_reducible repeat (first|apply Kd.R_alloc|apply Kd.R_drewN|apply Kd.R_drew));exact (Kd.R_mono (Kd.R_far (p:=⟨gb265,3,none⟩) (Kd.R_far (p:=⟨gb265,2,none⟩) (Kd.R_far (p:=⟨gb265,1,none⟩) (Kd.R_far (p:=⟨gb265,0,none⟩) (Kd.R_types HO253.out BK265.out (by decide)) (fun _ hk=>hk.2) (.int .i64 t255)) (fun _ hk=>hk.2) (.slice Ao53 t256.length co53)) (fun _ hk=>hk.2) (.slice Ao54 t259.length co54)) (fun _ hk=>hk.2) (.slice Ao55 t262.length co55)) (fun _ h_=>h_.1))) hb);have n3_:=Aside0.mk (Kd.R_below qz56 hb);have n4_:=Aside0.mk (Kd.R_below qz53 hb);have n5_:=Aside0.mk (Kd.R_below qz50 hb);have n6_:=Aside0.mk (blk_below (g:=gb242) (o:=.cells #[.int .i64 a0_0,.slice A0_1 l0_1.length c0_1,.slice A0_2 l0_2.length c0_2,.slice A0_3 l0_3.length c0_3] 24 (0,0)) qz31 hb);have n7_:=Aside0.mk (blk_below (g:=gb265) (o:=.cells #[.int .i64 t255,.slice Ao53 t256.length co53,.slice Ao54 t259.length co54,.slice Ao55 t262.length co55] 29 (0,0)) (by (with_reducible repeat (first|refine blk_drewN ?_ _|refine blk_drew ?_|refine blk_alloc ?_ _));refine blk_put (cs:=#[.int .i64 t255,.slice Ao53 t256.length co53,.slice Ao54 t259.length co54,.slice none 0 0]) ?_ 3 _ rfl;(with_reducible repeat (first|refine blk_drewN ?_ _|refine blk_drew ?_|refine blk_alloc ?_ _));refine blk_put (cs:=#[.int .i64 t255,.slice Ao53 t256.length co53,.slice none 0 0,.slice none 0 0]) ?_ 2 _ rfl;(with_reducible repeat (first|refine blk_drewN ?_ _|refine blk_drew ?_|refine blk_alloc ?_ _));refine blk_put (cs:=#[.int .i64 t255,.slice none 0 0,.slice none 0 0,.slice none 0 0]) ?_ 1 _ rfl;(with_reducible repeat (first|refine blk_drewN ?_ _|refine blk_drew ?_|refine blk_alloc ?_ _));refine blk_put (cs:=#[.int .i64 0,.slice none 0 0,.slice none 0 0,.slice none 0 0]) ?_ 0 _ rfl;(with_reducible repeat (first|refine blk_drewN ?_ _|refine blk_drew ?_|refine blk_alloc ?_ _));exact BK265.out) hb);have n8_:=Aside0.mk (below_step qz13 hb);clear HO247 HO250 HO253 HO258 HO261 HO264 BK242 BK265 HB;have HO247:=n0_;have HO250:=n1_;have HO253:=n2_;have HO258:=n3_;have HO261:=n4_;have HO264:=n5_;have BK242:=n6_;have BK265:=n7_;have HB:=n8_;clear n0_ n1_ n2_ n3_ n4_ n5_ n6_ n7_ n8_;(try clear hb);(try clear hb2);(try clear hk);(try clear hi)))
    have n0_:=Aside0.mk (Kd.R_drew HO247.out)
    have n1_:=Aside0.mk (Kd.R_drew HO250.out)
    have n2_:=Aside0.mk (Kd.R_drew HO253.out)
    have n3_:=Aside0.mk (Kd.R_drew HO258.out)
    have n4_:=Aside0.mk (Kd.R_drew HO261.out)
    have n5_:=Aside0.mk (Kd.R_drew HO264.out)
    have n6_:=Aside0.mk (blk_drew BK242.out)
    have n7_:=Aside0.mk (blk_drew BK265.out)
    have n8_:=Aside0.mk (below_drew1 HB.out)
    clear HO247 HO250 HO253 HO258 HO261 HO264 BK242 BK265 HB
    have HO247:=n0_
    have HO250:=n1_
    have HO253:=n2_
    have HO258:=n3_
    have HO261:=n4_
    have HO264:=n5_
    have BK242:=n6_
    have BK265:=n7_
    have HB:=n8_
    clear n0_ n1_ n2_ n3_ n4_ n5_ n6_ n7_ n8_
    refine start_ (n:=5) (S:=fun w'=>w'.cell? ⟨gb265,0,none⟩=some (.int .i64 t255)∧w'.cell? ⟨gb265,1,none⟩=some (.slice Ao53 t256.length co53)∧w'.cell? ⟨gb265,2,none⟩=some (.slice Ao54 t259.length co54)∧w'.cell? ⟨gb265,3,none⟩=some (.slice Ao55 t262.length co55)∧w'.cell? ⟨gb242,0,none⟩=some (.int .i64 a0_0)∧w'.cell? ⟨gb242,1,none⟩=some (.slice A0_1 l0_1.length c0_1)∧w'.cell? ⟨gb242,2,none⟩=some (.slice A0_2 l0_2.length c0_2)∧w'.cell? ⟨gb242,3,none⟩=some (.slice A0_3 l0_3.length c0_3)) (ds:=[]) #[false,false,false,false,false] (by kernel_rfl) rfl rfl ⟨(blk_cell BK265.out 0).trans rfl,(blk_cell BK265.out 1).trans rfl,(blk_cell BK265.out 2).trans rfl,(blk_cell BK265.out 3).trans rfl,(blk_cell BK242.out 0).trans rfl,(blk_cell BK242.out 1).trans rfl,(blk_cell BK242.out 2).trans rfl,(blk_cell BK242.out 3).trans rfl⟩ (fun hHeld=>?_)
    generalize w56.drew=w57 at HO247 HO250 HO253 HO258 HO261 HO264 BK242 BK265 HB hHeld ⊢
    refine take_ (i:=0) (N:=some 22) (v:=?_) (a':=?_) #[true,false,false,false,false] rfl rfl (by kernel_rfl) (fun _ _ _ h=>h) (Or.inl ⟨by rfl,?_⟩) hHeld ?_ ?_
    rotate_left
    ·rintro w' ⟨s0,s1,s2,s3,s4,s5,s6,s7⟩
     go_simp
     with_reducible rfl
    rotate_left
    ·simp only [Act.put,List.setIfInBounds_toArray,List.set_cons_zero,List.set_cons_succ,i64_w,i32_w]
     rfl
    refine take_ (i:=1) (N:=some 23) (v:=?_) (a':=?_) #[true,true,false,false,false] rfl rfl (by kernel_rfl) (fun _ _ _ h=>h) (Or.inl ⟨by rfl,?_⟩) hHeld ?_ ?_
    rotate_left
    ·rintro w' ⟨s0,s1,s2,s3,s4,s5,s6,s7⟩
     go_simp
     with_reducible rfl
    rotate_left
    ·simp only [Act.put,List.setIfInBounds_toArray,List.set_cons_zero,List.set_cons_succ,i64_w,i32_w]
     rfl
    refine one_ (i:=2) (N:=some 24) #[true,true,true,false,false] rfl rfl (by kernel_rfl) (by decide) (fun K hK=>?_)
    refine goes_ Tryd.func7 (by kernel_rfl) rfl #[.agg #[.int .i64 a0_0,.slice A0_1 l0_1.length c0_1,.slice A0_2 l0_2.length c0_2,.slice A0_3 l0_3.length c0_3]] (by rfl) rfl rfl qz2 ?_
    with_reducible refine (laws_toPrgGoal.calls k a0_0 _ _ l0_1 _ _ l0_2 _ _ l0_3 t267 t268 t271 t274 _ ?side1 ?side2 ?side3 ?side4 ?side5 ?side6 A12.out).mono ?_
    (case side1=>exact qz3)
    (case side2=>exact HC0_1.out)
    (case side3=>exact qz5)
    (case side4=>exact HC0_2.out)
    (case side5=>exact qz8)
    (case side6=>exact HC0_3.out)
    rintro e w58 ⟨v269,v272,v275,rfl,ho0,ho1,ho2,hb⟩
    refine ⟨_,rfl,?_⟩
    have n0_:=Aside0.mk (Kd.R_mono (Kd.R_told (Kd.R_told (Kd.R_told (Kd.R_old qz19 hb) (Kd.R_base ho0)) (Kd.R_base ho1)) (Kd.R_base ho2)) (fun _ h_=>h_.1))
    have n1_:=Aside0.mk (Kd.R_mono (Kd.R_told (Kd.R_told (Kd.R_told (Kd.R_old qz18 hb) (Kd.R_base ho0)) (Kd.R_base ho1)) (Kd.R_base ho2)) (fun _ h_=>h_.1))
    have n2_:=Aside0.mk (Kd.R_mono (Kd.R_told (Kd.R_told (Kd.R_told (Kd.R_old qz17 hb) (Kd.R_base ho0)) (Kd.R_base ho1)) (Kd.R_base ho2)) (fun _ h_=>h_.1))
    have n3_:=Aside0.mk (Kd.R_mono (Kd.R_told (Kd.R_told (Kd.R_told (Kd.R_old qz35 hb) (Kd.R_base ho0)) (Kd.R_base ho1)) (Kd.R_base ho2)) (fun _ h_=>h_.1))
    have n4_:=Aside0.mk (Kd.R_mono (Kd.R_told (Kd.R_told (Kd.R_told (Kd.R_old qz34 hb) (Kd.R_base ho0)) (Kd.R_base ho1)) (Kd.R_base ho2)) (fun _ h_=>h_.1))
    have n5_:=Aside0.mk (Kd.R_mono (Kd.R_told (Kd.R_told (Kd.R_told (Kd.R_old qz33 hb) (Kd.R_base ho0)) (Kd.R_base ho1)) (Kd.R_base ho2)) (fun _ h_=>h_.1))
    have n6_:=Aside0.mk (Kd.R_lower (Kd.R_new' (Kd.R_new' (Kd.R_new' (Kd.R_new' (Kd.R_new' (Kd.R_new' ho0 (Kd.R_lt qz19)) (Kd.R_lt qz18)) (Kd.R_lt qz17)) (Kd.R_lt qz35)) (Kd.R_lt qz34)) (Kd.R_lt qz33)) (below_size qz13))
    have n7_:=Aside0.mk (Kd.R_lower (Kd.R_new' (Kd.R_new' (Kd.R_new' (Kd.R_new' (Kd.R_new' (Kd.R_new' ho1 (Kd.R_lt qz19)) (Kd.R_lt qz18)) (Kd.R_lt qz17)) (Kd.R_lt qz35)) (Kd.R_lt qz34)) (Kd.R_lt qz33)) (below_size qz13))
    have n8_:=Aside0.mk (Kd.R_lower (Kd.R_new' (Kd.R_new' (Kd.R_new' (Kd.R_new' (Kd.R_new' (Kd.R_new' ho2 (Kd.R_lt qz19)) (Kd.R_lt qz18)) (Kd.R_lt qz17)) (Kd.R_lt qz35)) (Kd.R_lt qz34)) (Kd.R_lt qz33)) (below_size qz13))
    have n9_:=Aside0.mk (blk_below (g:=gb242) (o:=.cells #[.int .i64 a0_0,.slice A0_1 l0_1.length c0_1,.slice A0_2 l0_2.length c0_2,.slice A0_3 l0_3.length c0_3] 24 (0,0)) qz15 hb)
    have n10_:=Aside0.mk (blk_below (g:=gb265) (o:=.cells #[.int .i64 t255,.slice Ao53 t256.length co53,.slice Ao54 t259.length co54,.slice Ao55 t262.length co55] 29 (0,0)) qz63 hb)
    have n11_:=Aside0.mk (below_step qz13 hb)
    clear HO247 HO250 HO253 HO258 HO261 HO264 BK242 BK265 HB
    have HO247:=n0_
    have HO250:=n1_
    have HO253:=n2_
    have HO258:=n3_
    have HO261:=n4_
    have HO264:=n5_
    have HO270:=n6_
    have HO273:=n7_
    have HO276:=n8_
    have BK242:=n9_
    have BK265:=n10_
    have HB:=n11_
    clear n0_ n1_ n2_ n3_ n4_ n5_ n6_ n7_ n8_ n9_ n10_ n11_
    (try clear hb)
    (try clear hb2)
    (try clear hk)
    (try clear hi)
    (try clear ho0)
    (try clear ho1)
    (try clear ho2)
    obtain ⟨Ao59,co59,eo59⟩:=Kd.R_slice HO270.out
    (first|subst eo59|(injection eo59 with f1_ f2_ f3_;have f4_:=f1_.symm;have f5_:=f3_.symm;clear f1_ f2_ f3_;subst f4_;subst f5_))
    obtain ⟨Ao60,co60,eo60⟩:=Kd.R_slice HO273.out
    (first|subst eo60|(injection eo60 with f1_ f2_ f3_;have f4_:=f1_.symm;have f5_:=f3_.symm;clear f1_ f2_ f3_;subst f4_;subst f5_))
    obtain ⟨Ao61,co61,eo61⟩:=Kd.R_slice HO276.out
    (first|subst eo61|(injection eo61 with f1_ f2_ f3_;have f4_:=f1_.symm;have f5_:=f3_.symm;clear f1_ f2_ f3_;subst f4_;subst f5_))
    refine hK.out _ _ ⟨(blk_cell BK265.out 0).trans rfl,(blk_cell BK265.out 1).trans rfl,(blk_cell BK265.out 2).trans rfl,(blk_cell BK265.out 3).trans rfl,(blk_cell BK242.out 0).trans rfl,(blk_cell BK242.out 1).trans rfl,(blk_cell BK242.out 2).trans rfl,(blk_cell BK242.out 3).trans rfl⟩ (fun hHeld=>?_)
    clear hK K
    refine norm_ (a':=?_) ?_ ?_
    rotate_left
    ·show Act.put _ (some 24) _=_
     simp only [Act.put,List.setIfInBounds_toArray,List.set_cons_zero,List.set_cons_succ,i64_w,i32_w]
     rfl
    refine one_ (i:=3) (N:=some 25) #[true,true,true,true,false] rfl rfl (by kernel_rfl) (by decide) (fun K hK=>?_)
    refine goes_ Tryd.func9 (by kernel_rfl) rfl #[.agg #[.int .i64 t255,.slice Ao53 t256.length co53,.slice Ao54 t259.length co54,.slice Ao55 t262.length co55],.agg #[.int .i64 t267,.slice Ao59 t268.length co59,.slice Ao60 t271.length co60,.slice Ao61 t274.length co61]] (by rfl) rfl rfl qz2 ?_
    with_reducible refine (laws_eqPrgGoal.calls k t255 _ _ t256 _ _ t259 _ _ t262 t267 _ _ t268 _ _ t271 _ _ t274 false _ ?side1 ?side2 ?side3 ?side4 ?side5 ?side6 ?side7 ?side8 ?side9 ?side10 ?side11 ?side12 A13.out).mono ?_
    (case side1=>exact qz87)
    (case side2=>exact (Kd.R_reads' HO258.out).2.1)
    (case side3=>exact qz86)
    (case side4=>exact (Kd.R_reads' HO261.out).2.1)
    (case side5=>exact qz85)
    (case side6=>exact (Kd.R_reads' HO264.out).2.1)
    (case side7=>exact qz84)
    (case side8=>exact (Kd.R_reads' HO270.out).2.1)
    (case side9=>exact qz83)
    (case side10=>exact (Kd.R_reads' HO273.out).2.1)
    (case side11=>exact qz82)
    (case side12=>exact (Kd.R_reads' HO276.out).2.1)
    rintro e w62 ⟨rfl,hb⟩
    refine ⟨_,rfl,?_⟩
    have n0_:=Aside0.mk (Kd.R_below qz19 hb)
    have n1_:=Aside0.mk (Kd.R_below qz18 hb)
    have n2_:=Aside0.mk (Kd.R_below qz17 hb)
    have n3_:=Aside0.mk (Kd.R_below qz35 hb)
    have n4_:=Aside0.mk (Kd.R_below qz34 hb)
    have n5_:=Aside0.mk (Kd.R_below qz33 hb)
    have n6_:=Aside0.mk (Kd.R_below (by (with_reducible repeat (first|apply Kd.R_alloc|apply Kd.R_drewN|apply Kd.R_drew));exact HO270.out) hb)
    have n7_:=Aside0.mk (Kd.R_below (by (with_reducible repeat (first|apply Kd.R_alloc|apply Kd.R_drewN|apply Kd.R_drew));exact HO273.out) hb)
    have n8_:=Aside0.mk (Kd.R_below (by (with_reducible repeat (first|apply Kd.R_alloc|apply Kd.R_drewN|apply Kd.R_drew));exact HO276.out) hb)
    have n9_:=Aside0.mk (blk_below (g:=gb242) (o:=.cells #[.int .i64 a0_0,.slice A0_1 l0_1.length c0_1,.slice A0_2 l0_2.length c0_2,.slice A0_3 l0_3.length c0_3] 24 (0,0)) qz15 hb)
    have n10_:=Aside0.mk (blk_below (g:=gb265) (o:=.cells #[.int .i64 t255,.slice Ao53 t256.length co53,.slice Ao54 t259.length co54,.slice Ao55 t262.length co55] 29 (0,0)) qz63 hb)
    have n11_:=Aside0.mk (below_step qz13 hb)
    clear HO247 HO250 HO253 HO258 HO261 HO264 HO270 HO273 HO276 BK242 BK265 HB
    have HO247:=n0_
    have HO250:=n1_
    have HO253:=n2_
    have HO258:=n3_
    have HO261:=n4_
    have HO264:=n5_
    have HO270:=n6_
    have HO273:=n7_
    have HO276:=n8_
    have BK242:=n9_
    have BK265:=n10_
    have HB:=n11_
    clear n0_ n1_ n2_ n3_ n4_ n5_ n6_ n7_ n8_ n9_ n10_ n11_
    (try clear hb)
    (try clear hb2)
    (try clear hk)
    (try clear hi)
    refine hK.out _ _ ⟨(blk_cell BK265.out 0).trans rfl,(blk_cell BK265.out 1).trans rfl,(blk_cell BK265.out 2).trans rfl,(blk_cell BK265.out 3).trans rfl,(blk_cell BK242.out 0).trans rfl,(blk_cell BK242.out 1).trans rfl,(blk_cell BK242.out 2).trans rfl,(blk_cell BK242.out 3).trans rfl⟩ (fun hHeld=>?_)
    clear hK K
    refine norm_ (a':=?_) ?_ ?_
    rotate_left
    ·show Act.put _ (some 25) _=_
     simp only [Act.put,List.setIfInBounds_toArray,List.set_cons_zero,List.set_cons_succ,i64_w,i32_w]
     rfl
    refine pure_ (i:=4) (N:=some 26) (v:=?_) (a':=?_) #[true,true,true,true,true] rfl rfl (by kernel_rfl) (fun _ _ _ h=>h) (Or.inl ⟨by rfl,?_⟩) ?_ ?_
    rotate_left
    ·intro w'
     go_simp
     with_reducible rfl
    rotate_left
    ·simp only [Act.put,List.setIfInBounds_toArray,List.set_cons_zero,List.set_cons_succ,i64_w,i32_w]
     rfl
    refine done_ (by kernel_rfl) ?_
    try go_wp2
    go_ret
    exact ⟨qz4,qz13⟩
  ·rw [if_neg c11] at H
   have c11b0:(t266.toList == t254.toList)=false:=beq_eq_false_iff_ne.mpr c11
   have c11b1:(t266.toList != t254.toList)=true:=bne_iff_ne.mpr c11
   obtain rfl:=Option.some.inj H
   go_enter Tryd.func3,Tryd.ntmps3
   go_wp2_with (first|((with_reducible refine gate_dst (N:=1) rfl ?_);refine box_event ?hg (N:=1) ?hd (cs:=#[.int .i64 a0_0,.slice A0_1 l0_1.length c0_1,.slice A0_2 l0_2.length c0_2,.slice A0_3 l0_3.length c0_3]) (t:=24) ?hr ?_;(case hd=>rfl);(case hg=>rfl);(case hr=>first|(go_simp;done)|(go_simp;rfl));intro gb242 hg w63 hbox hb;have n0_:=Aside0.mk (below_step qz1 hb);have n1_:=Aside0.mk (hbox);have n2_:=Aside0.mk ((by rw [hg];exact (below_size qz1):w.heap.size≤gb242));have n3_:=Aside0.mk ((by rw [hg];exact (below_size qz1):w.heap.size≤gb242));clear HB;have HB:=n0_;have BK242:=n1_;have GW242:=n2_;have GE242:=n3_;clear n0_ n1_ n2_ n3_ hb hbox hg;have hcz64_0:w63.cell? ⟨gb242,0,none⟩=some (.int .i64 a0_0):=(blk_cell BK242.out 0).trans rfl;have hcz64_1:w63.cell? ⟨gb242,1,none⟩=some (.slice A0_1 l0_1.length c0_1):=(blk_cell BK242.out 1).trans rfl;have hcz64_2:w63.cell? ⟨gb242,2,none⟩=some (.slice A0_2 l0_2.length c0_2):=(blk_cell BK242.out 2).trans rfl;have hcz64_3:w63.cell? ⟨gb242,3,none⟩=some (.slice A0_3 l0_3.length c0_3):=(blk_cell BK242.out 3).trans rfl;have hfz64_0:=blk_frozen BK242.out 0;have hfz64_1:=blk_frozen BK242.out 1;have hfz64_2:=blk_frozen BK242.out 2;have hfz64_3:=blk_frozen BK242.out 3)|((with_reducible refine gate_callee (f:=5) rfl ?_);refine goesL_ (some 9) rfl rfl Tryd.func5 (by kernel_rfl) rfl #[.agg #[.int .i64 a0_0,.slice A0_1 l0_1.length c0_1,.slice A0_2 l0_2.length c0_2,.slice A0_3 l0_3.length c0_3],.int .i64 1048576] rfl qz2 ?_;(with_reducible refine (laws_szPrgGoal.calls k a0_0 _ _ l0_1 _ _ l0_2 _ _ l0_3 1048576 t243 _ ?side1 ?side2 ?side3 ?side4 ?side5 ?side6 A2.out).mono ?_);(case side1=>exact qz3);(case side2=>exact HC0_1.out);(case side3=>exact qz5);(case side4=>exact HC0_2.out);(case side5=>exact qz8);(case side6=>exact HC0_3.out);rintro e w65 ⟨rfl,hb⟩;refine ⟨_,rfl,?_⟩;have n0_:=Aside0.mk (blk_below (g:=gb242) (o:=.cells #[.int .i64 a0_0,.slice A0_1 l0_1.length c0_1,.slice A0_2 l0_2.length c0_2,.slice A0_3 l0_3.length c0_3] 24 (0,0)) qz15 hb);have n1_:=Aside0.mk (below_step qz7 hb);clear BK242 HB;have BK242:=n0_;have HB:=n1_;clear n0_ n1_;(try clear hb);(try clear hb2);(try clear hk);(try clear hi);have hcz66_0:w65.cell? ⟨gb242,0,none⟩=some (.int .i64 a0_0):=(blk_cell BK242.out 0).trans rfl;have hcz66_1:w65.cell? ⟨gb242,1,none⟩=some (.slice A0_1 l0_1.length c0_1):=(blk_cell BK242.out 1).trans rfl;have hcz66_2:w65.cell? ⟨gb242,2,none⟩=some (.slice A0_2 l0_2.length c0_2):=(blk_cell BK242.out 2).trans rfl;have hcz66_3:w65.cell? ⟨gb242,3,none⟩=some (.slice A0_3 l0_3.length c0_3):=(blk_cell BK242.out 3).trans rfl;have hfz66_0:=blk_frozen BK242.out 0;have hfz66_1:=blk_frozen BK242.out 1;have hfz66_2:=blk_frozen BK242.out 2;have hfz66_3:=blk_frozen BK242.out 3)|((with_reducible refine gate_callee (f:=7) rfl ?_);refine goesL_ (some 13) rfl rfl Tryd.func7 (by kernel_rfl) rfl #[.agg #[.int .i64 a0_0,.slice A0_1 l0_1.length c0_1,.slice A0_2 l0_2.length c0_2,.slice A0_3 l0_3.length c0_3]] rfl qz2 ?_;(with_reducible refine (laws_toPrgGoal.calls k a0_0 _ _ l0_1 _ _ l0_2 _ _ l0_3 t244 t245 t248 t251 _ ?side1 ?side2 ?side3 ?side4 ?side5 ?side6 A7.out).mono ?_);(case side1=>exact qz3);(case side2=>exact HC0_1.out);(case side3=>exact qz5);(case side4=>exact HC0_2.out);(case side5=>exact qz8);(case side6=>exact HC0_3.out);rintro e w67 ⟨v246,v249,v252,rfl,ho0,ho1,ho2,hb⟩;refine ⟨_,rfl,?_⟩;have n0_:=Aside0.mk (Kd.R_lower ho0 (below_size qz7));have n1_:=Aside0.mk (Kd.R_lower ho1 (below_size qz7));have n2_:=Aside0.mk (Kd.R_lower ho2 (below_size qz7));have n3_:=Aside0.mk (blk_below (g:=gb242) (o:=.cells #[.int .i64 a0_0,.slice A0_1 l0_1.length c0_1,.slice A0_2 l0_2.length c0_2,.slice A0_3 l0_3.length c0_3] 24 (0,0)) qz15 hb);have n4_:=Aside0.mk (below_step qz7 hb);clear BK242 HB;have HO247:=n0_;have HO250:=n1_;have HO253:=n2_;have BK242:=n3_;have HB:=n4_;clear n0_ n1_ n2_ n3_ n4_;(try clear hb);(try clear hb2);(try clear hk);(try clear hi);(try clear ho0);(try clear ho1);(try clear ho2);obtain ⟨Ao68,co68,eo68⟩:=Kd.R_slice HO247.out;subst eo68;obtain ⟨Ao69,co69,eo69⟩:=Kd.R_slice HO250.out;subst eo69;obtain ⟨Ao70,co70,eo70⟩:=Kd.R_slice HO253.out;subst eo70)|((with_reducible refine gate_callee (f:=6) rfl ?_);refine goesL_ (some 14) rfl rfl Tryd.func6 (by kernel_rfl) rfl #[.agg #[.int .i64 t244,.slice Ao68 t245.length co68,.slice Ao69 t248.length co69,.slice Ao70 t251.length co70]] rfl qz2 ?_;(with_reducible refine (spec_GoalText.calls k t244 _ _ t245 _ _ t248 _ _ t251 t254 _ ?side1 ?side2 ?side3 ?side4 ?side5 ?side6 A8.out).mono ?_);(case side1=>exact qz66);(case side2=>exact (Kd.R_reads' HO247.out).2.1);(case side3=>exact qz65);(case side4=>exact (Kd.R_reads' HO250.out).2.1);(case side5=>exact qz64);(case side6=>exact (Kd.R_reads' HO253.out).2.1);rintro e w71 ⟨rfl,hb⟩;refine ⟨_,rfl,?_⟩;have n0_:=Aside0.mk (Kd.R_below qz19 hb);have n1_:=Aside0.mk (Kd.R_below qz18 hb);have n2_:=Aside0.mk (Kd.R_below qz17 hb);have n3_:=Aside0.mk (blk_below (g:=gb242) (o:=.cells #[.int .i64 a0_0,.slice A0_1 l0_1.length c0_1,.slice A0_2 l0_2.length c0_2,.slice A0_3 l0_3.length c0_3] 24 (0,0)) qz15 hb);have n4_:=Aside0.mk (below_step qz7 hb);clear HO247 HO250 HO253 BK242 HB;have HO247:=n0_;have HO250:=n1_;have HO253:=n2_;have BK242:=n3_;have HB:=n4_;clear n0_ n1_ n2_ n3_ n4_;(try clear hb);(try clear hb2);(try clear hk);(try clear hi);have hcz72_0:w71.cell? ⟨gb242,0,none⟩=some (.int .i64 a0_0):=(blk_cell BK242.out 0).trans rfl;have hcz72_1:w71.cell? ⟨gb242,1,none⟩=some (.slice A0_1 l0_1.length c0_1):=(blk_cell BK242.out 1).trans rfl;have hcz72_2:w71.cell? ⟨gb242,2,none⟩=some (.slice A0_2 l0_2.length c0_2):=(blk_cell BK242.out 2).trans rfl;have hcz72_3:w71.cell? ⟨gb242,3,none⟩=some (.slice A0_3 l0_3.length c0_3):=(blk_cell BK242.out 3).trans rfl;have hfz72_0:=blk_frozen BK242.out 0;have hfz72_1:=blk_frozen BK242.out 1;have hfz72_2:=blk_frozen BK242.out 2;have hfz72_3:=blk_frozen BK242.out 3)|((with_reducible refine gate_callee (f:=7) rfl ?_);refine goesL_ (some 16) rfl rfl Tryd.func7 (by kernel_rfl) rfl #[.agg #[.int .i64 a0_0,.slice A0_1 l0_1.length c0_1,.slice A0_2 l0_2.length c0_2,.slice A0_3 l0_3.length c0_3]] rfl qz2 ?_;(with_reducible refine (laws_toPrgGoal.calls k a0_0 _ _ l0_1 _ _ l0_2 _ _ l0_3 t255 t256 t259 t262 _ ?side1 ?side2 ?side3 ?side4 ?side5 ?side6 A9.out).mono ?_);(case side1=>exact qz3);(case side2=>exact HC0_1.out);(case side3=>exact qz5);(case side4=>exact HC0_2.out);(case side5=>exact qz8);(case side6=>exact HC0_3.out);rintro e w73 ⟨v257,v260,v263,rfl,ho0,ho1,ho2,hb⟩;refine ⟨_,rfl,?_⟩;have n0_:=Aside0.mk (Kd.R_mono (Kd.R_told (Kd.R_told (Kd.R_told (Kd.R_old qz19 hb) (Kd.R_base ho0)) (Kd.R_base ho1)) (Kd.R_base ho2)) (fun _ h_=>h_.1));have n1_:=Aside0.mk (Kd.R_mono (Kd.R_told (Kd.R_told (Kd.R_told (Kd.R_old qz18 hb) (Kd.R_base ho0)) (Kd.R_base ho1)) (Kd.R_base ho2)) (fun _ h_=>h_.1));have n2_:=Aside0.mk (Kd.R_mono (Kd.R_told (Kd.R_told (Kd.R_told (Kd.R_old qz17 hb) (Kd.R_base ho0)) (Kd.R_base ho1)) (Kd.R_base ho2)) (fun _ h_=>h_.1));have n3_:=Aside0.mk (Kd.R_lower (Kd.R_new' (Kd.R_new' (Kd.R_new' ho0 (Kd.R_lt qz19)) (Kd.R_lt qz18)) (Kd.R_lt qz17)) (below_size qz7));have n4_:=Aside0.mk (Kd.R_lower (Kd.R_new' (Kd.R_new' (Kd.R_new' ho1 (Kd.R_lt qz19)) (Kd.R_lt qz18)) (Kd.R_lt qz17)) (below_size qz7));have n5_:=Aside0.mk (Kd.R_lower (Kd.R_new' (Kd.R_new' (Kd.R_new' ho2 (Kd.R_lt qz19)) (Kd.R_lt qz18)) (Kd.R_lt qz17)) (below_size qz7));have n6_:=Aside0.mk (blk_below (g:=gb242) (o:=.cells #[.int .i64 a0_0,.slice A0_1 l0_1.length c0_1,.slice A0_2 l0_2.length c0_2,.slice A0_3 l0_3.length c0_3] 24 (0,0)) qz15 hb);have n7_:=Aside0.mk (below_step qz7 hb);clear HO247 HO250 HO253 BK242 HB;have HO247:=n0_;have HO250:=n1_;have HO253:=n2_;have HO258:=n3_;have HO261:=n4_;have HO264:=n5_;have BK242:=n6_;have HB:=n7_;clear n0_ n1_ n2_ n3_ n4_ n5_ n6_ n7_;(try clear hb);(try clear hb2);(try clear hk);(try clear hi);(try clear ho0);(try clear ho1);(try clear ho2))|((with_reducible refine gate_dst (N:=5) rfl ?_);refine box_event ?hg (N:=5) ?hd (cs:=#[.int .i64 0,.slice none 0 0,.slice none 0 0,.slice none 0 0]) (t:=29) ?hr ?_;(case hd=>rfl);(case hg=>rfl);(case hr=>first|(go_simp;done)|(go_simp;rfl));intro gb265 hg w74 hbox hb;have n0_:=Aside0.mk (Kd.R_below qz19 hb);have n1_:=Aside0.mk (Kd.R_below qz18 hb);have n2_:=Aside0.mk (Kd.R_below qz17 hb);have n3_:=Aside0.mk (Kd.R_below qz35 hb);have n4_:=Aside0.mk (Kd.R_below qz34 hb);have n5_:=Aside0.mk (Kd.R_below qz33 hb);have n6_:=Aside0.mk (blk_below (g:=gb242) (o:=.cells #[.int .i64 a0_0,.slice A0_1 l0_1.length c0_1,.slice A0_2 l0_2.length c0_2,.slice A0_3 l0_3.length c0_3] 24 (0,0)) qz15 hb);have n7_:=Aside0.mk (below_step qz7 hb);have n8_:=Aside0.mk (hbox);have n9_:=Aside0.mk ((by rw [hg];exact (below_size qz7):w.heap.size≤gb265));have n10_:=Aside0.mk ((by rw [hg];exact (below_size qz7):w.heap.size≤gb265));have n11_:=Aside0.mk ((by rw [hg];exact Nat.ne_of_lt (blk_lt (g:=gb242) (o:=.cells #[.int .i64 a0_0,.slice A0_1 l0_1.length c0_1,.slice A0_2 l0_2.length c0_2,.slice A0_3 l0_3.length c0_3] 24 (0,0)) qz15):gb242≠gb265));have n12_:=Aside0.mk ((by rw [hg];exact Nat.ne_of_gt (blk_lt (g:=gb242) (o:=.cells #[.int .i64 a0_0,.slice A0_1 l0_1.length c0_1,.slice A0_2 l0_2.length c0_2,.slice A0_3 l0_3.length c0_3] 24 (0,0)) qz15):gb265≠gb242));clear HO247 HO250 HO253 HO258 HO261 HO264 BK242 HB;have HO247:=n0_;have HO250:=n1_;have HO253:=n2_;have HO258:=n3_;have HO261:=n4_;have HO264:=n5_;have BK242:=n6_;have HB:=n7_;have BK265:=n8_;have GW265:=n9_;have GE265:=n10_;have NB242_265:=n11_;have NB265_242:=n12_;clear n0_ n1_ n2_ n3_ n4_ n5_ n6_ n7_ n8_ n9_ n10_ n11_ n12_ hb hbox hg;have hnb75:=NB265_242.out;have hnc75:=NB242_265.out;have hcz76_0:w74.cell? ⟨gb265,0,none⟩=some (.int .i64 0):=(blk_cell BK265.out 0).trans rfl;have hcz76_1:w74.cell? ⟨gb265,1,none⟩=some (.slice none 0 0):=(blk_cell BK265.out 1).trans rfl;have hcz76_2:w74.cell? ⟨gb265,2,none⟩=some (.slice none 0 0):=(blk_cell BK265.out 2).trans rfl;have hcz76_3:w74.cell? ⟨gb265,3,none⟩=some (.slice none 0 0):=(blk_cell BK265.out 3).trans rfl;have hfz76_0:=blk_frozen BK265.out 0;have hfz76_1:=blk_frozen BK265.out 1;have hfz76_2:=blk_frozen BK265.out 2;have hfz76_3:=blk_frozen BK265.out 3;obtain ⟨Ao77,co77,eo77⟩:=Kd.R_slice HO258.out;subst eo77;obtain ⟨Ao78,co78,eo78⟩:=Kd.R_slice HO261.out;subst eo78;obtain ⟨Ao79,co79,eo79⟩:=Kd.R_slice HO264.out;subst eo79)|((with_reducible refine gate_callee (f:=8) rfl ?_);refine goesL_ (some 18) rfl rfl Tryd.func8 (by kernel_rfl) rfl #[.agg #[.int .i64 t255,.slice Ao77 t256.length co77,.slice Ao78 t259.length co78,.slice Ao79 t262.length co79]] rfl qz2 ?_;(with_reducible refine (impl_GoalText.calls (hT_:=HQT_.out.below qz13) k t255 _ _ t256 _ _ t259 _ _ t262 t266 _ ?side1 ?side2 ?side3 ?side4 ?side5 ?side6 A10.out).mono ?_);(case side1=>refine (Kd.R_reads' (e:=44) (base:=w.heap.size) (ok:=fun k_=>((((some k_≠(.slice Ao78 t259.length co78:Value).ownBlock∧some k_≠(.slice Ao79 t262.length co79:Value).ownBlock)∧some k_≠(.slice Ao68 t245.length co68:Value).ownBlock)∧some k_≠(.slice Ao69 t248.length co69:Value).ownBlock)∧some k_≠(.slice Ao70 t251.length co70:Value).ownBlock)) (n:=t256.length) (c:=co77) ?_).2.2;exact qz55);(case side2=>exact (Kd.R_reads' HO258.out).2.1);(case side3=>refine (Kd.R_reads' (e:=44) (base:=w.heap.size) (ok:=fun k_=>((((some k_≠(.slice Ao77 t256.length co77:Value).ownBlock∧some k_≠(.slice Ao79 t262.length co79:Value).ownBlock)∧some k_≠(.slice Ao68 t245.length co68:Value).ownBlock)∧some k_≠(.slice Ao69 t248.length co69:Value).ownBlock)∧some k_≠(.slice Ao70 t251.length co70:Value).ownBlock)) (n:=t259.length) (c:=co78) ?_).2.2;exact qz52);(case side4=>exact (Kd.R_reads' HO261.out).2.1);(case side5=>refine (Kd.R_reads' (e:=44) (base:=w.heap.size) (ok:=fun k_=>((((some k_≠(.slice Ao77 t256.length co77:Value).ownBlock∧some k_≠(.slice Ao78 t259.length co78:Value).ownBlock)∧some k_≠(.slice Ao68 t245.length co68:Value).ownBlock)∧some k_≠(.slice Ao69 t248.length co69:Value).ownBlock)∧some k_≠(.slice Ao70 t251.length co70:Value).ownBlock)) (n:=t262.length) (c:=co79) ?_).2.2;exact qz49);(case side6=>exact (Kd.R_reads' HO264.out).2.1);rintro e w80 ⟨rfl,hb⟩;refine ⟨_,rfl,?_⟩;have n0_:=Aside0.mk (Kd.R_below (by (with_reducible repeat (first|apply Kd.R_alloc|apply Kd.R_drewN|apply Kd.R_drew));exact (Kd.R_mono (Kd.R_far (p:=⟨gb265,3,none⟩) (Kd.R_far (p:=⟨gb265,2,none⟩) (Kd.R_far (p:=⟨gb265,1,none⟩) (Kd.R_far (p:=⟨gb265,0,none⟩) (Kd.R_types HO247.out BK265.out (by decide)) (fun _ hk=>hk.2) (.int .i64 t255)) (fun _ hk=>hk.2) (.slice Ao77 t256.length co77)) (fun _ hk=>hk.2) (.slice Ao78 t259.length co78)) (fun _ hk=>hk.2) (.slice Ao79 t262.length co79)) (fun _ h_=>h_.1))) hb);have n1_:=Aside0.mk (Kd.R_below (by (with_reducible repeat (first|apply Kd.R_alloc|apply Kd.R_drewN|apply Kd.R_drew));exact (Kd.R_mono (Kd.R_far (p:=⟨gb265,3,none⟩) (Kd.R_far (p:=⟨gb265,2,none⟩) (Kd.R_far (p:=⟨gb265,1,none⟩) (Kd.R_far (p:=⟨gb265,0,none⟩) (Kd.R_types HO250.out BK265.out (by decide)) (fun _ hk=>hk.2) (.int .i64 t255)) (fun _ hk=>hk.2) (.slice Ao77 t256.length co77)) (fun _ hk=>hk.2) (.slice Ao78 t259.length co78)) (fun _ hk=>hk.2) (.slice Ao79 t262.length co79)) (fun _ h_=>h_.1))) hb);have n2_:=Aside0.mk (Kd.R_below (by (with_reducible repeat (first|apply Kd.R_alloc|apply Kd.R_drewN|apply Kd.R_drew));exact (Kd.R_mono (Kd.R_far (p:=⟨gb265,3,none⟩) (Kd.R_far (p:=⟨gb265,2,none⟩) (Kd.R_far (p:=⟨gb265,1,none⟩) (Kd.R_far (p:=⟨gb265,0,none⟩) (Kd.R_types HO253.out BK265.out (by decide)) (fun _ hk=>hk.2) (.int .i64 t255)) (fun _ hk=>hk.2) (.slice Ao77 t256.length co77)) (fun _ hk=>hk.2) (.slice Ao78 t259.length co78)) (fun _ hk=>hk.2) (.slice Ao79 t262.length co79)) (fun _ h_=>h_.1))) hb);have n3_:=Aside0.mk (Kd.R_below qz55 hb);have n4_:=Aside0.mk (Kd.R_below qz52 hb);have n5_:=Aside0.mk (Kd.R_below qz49 hb);have n6_:=Aside0.mk (blk_below (g:=gb242) (o:=.cells #[.int .i64 a0_0,.slice A0_1 l0_1.length c0_1,.slice A0_2 l0_2.length c0_2,.slice A0_3 l0_3.length c0_3] 24 (0,0)) qz31 hb);have n7_:=Aside0.mk (blk_below (g:=gb265) (o:=.cells #[.int .i64 t255,.slice Ao77 t256.length co77,.slice Ao78 t259.length co78,.slice Ao79 t262.length co79] 29 (0,0)) (by (with_reducible repeat (first|refine blk_drewN ?_ _|refine blk_drew ?_|refine blk_alloc ?_ _));refine blk_put (cs:=#[.int .i64 t255,.slice Ao77 t256.length co77,.slice Ao78 t259.length co78,.slice none 0 0]) ?_ 3 _ rfl;(with_reducible repeat (first|refine blk_drewN ?_ _|refine blk_drew ?_|refine blk_alloc ?_ _));refine blk_put (cs:=#[.int .i64 t255,.slice Ao77 t256.length co77,.slice none 0 0,.slice none 0 0]) ?_ 2 _ rfl;(with_reducible repeat (first|refine blk_drewN ?_ _|refine blk_drew ?_|refine blk_alloc ?_ _));refine blk_put (cs:=#[.int .i64 t255,.slice none 0 0,.slice none 0 0,.slice none 0 0]) ?_ 1 _ rfl;(with_reducible repeat (first|refine blk_drewN ?_ _|refine blk_drew ?_|refine blk_alloc ?_ _));refine blk_put (cs:=#[.int .i64 0,.slice none 0 0,.slice none 0 0,.slice none 0 0]) ?_ 0 _ rfl;(with_reducible repeat (first|refine blk_drewN ?_ _|refine blk_drew ?_|refine blk_alloc ?_ _));exact BK265.out) hb);have n8_:=Aside0.mk (below_step qz13 hb);clear HO247 HO250 HO253 HO258 HO261 HO264 BK242 BK265 HB;have HO247:=n0_;have HO250:=n1_;have HO253:=n2_;have HO258:=n3_;have HO261:=n4_;have HO264:=n5_;have BK242:=n6_;have BK265:=n7_;have HB:=n8_;clear n0_ n1_ n2_ n3_ n4_ n5_ n6_ n7_ n8_;(try clear hb);(try clear hb2);(try clear hk);(try clear hi)))
   go_ret
   exact ⟨qz4,qz13⟩

end Go.Proofs.YtlhniagacegbeaaDoor.P
