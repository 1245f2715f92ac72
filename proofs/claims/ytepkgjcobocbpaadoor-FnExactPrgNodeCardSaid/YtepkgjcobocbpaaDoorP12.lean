/- Contracts of functions of the program: each as a Lean function, and that its call does what that says; printed by cprint.py (this session) over print.py of the kit. Conditions: the hypotheses of each theorem. -/
import Derived.Test.YtepkgjcobocbpaaDoorVZ
import Derived.Test.YtepkgjcobocbpaaDoorP0
namespace Go.Proofs.YtepkgjcobocbpaaDoor.P
open Go.RowKit Go.Proofs.YtepkgjcobocbpaaDoorW.PrintWords Go.Proofs.YtepkgjcobocbpaaDoorW.PrintLast Go.Proofs.YtepkgjcobocbpaaDoorW.PrintMore
attribute [local go_sem] max2_int min2_int max_two min_two max_three min_three max_four min_four   -- for this text's walks alone
set_option linter.unusedVariables false
set_option linter.unusedSimpArgs false

/-! ### laws_szTrmCell: function 28 -/
def laws_szTrmCell.f (a0_0:Int) (a0_1:Int) (a0_2:ByteArray) (a1:Int):Option (Int):=if (wrap64 (a1 - (a0_2.size:Int)))<0 then (some (-1)) else (some (wrap64 (a1 - (a0_2.size:Int))))
set_option maxHeartbeats 8000000 in
set_option maxRecDepth 100000 in
theorem laws_szTrmCell.calls (a0_0:Int) (a0_1:Int) (a0_2:ByteArray) (a1:Int) (r:Int) (w:World) (h:laws_szTrmCell.f a0_0 a0_1 a0_2 a1=some r) :
  Calls Tryd.prog 28 #[.agg #[.int .i64 a0_0,.int .i64 a0_1,.string a0_2],.int .i64 a1] w fun e w'=>e = .returned (.int .i64 r)∧Below w.heap.size w w':=by
 have hu61:=Tryd.underlying61
 have HB:=Aside0.mk (Below.refl w.heap.size w)
 have H:(if (wrap64 (a1 - (a0_2.size:Int)))<0 then (some (-1)) else (some (wrap64 (a1 - (a0_2.size:Int)))))=some r:=h
 clear h
 by_cases c3:(wrap64 (a1 - (a0_2.size:Int)))<0
 ·rw [if_pos c3] at H
  have c3b0:decide ((wrap64 (a1 - (a0_2.size:Int)))<0)=true:=decide_eq_true c3
  clear c3
  obtain rfl:=Option.some.inj H
  go_enter Tryd.func28,Tryd.ntmps28
  go_wp2_with (first|((with_reducible refine gate_dst (N:=2) rfl ?_);refine box_event ?hg (N:=2) ?hd (cs:=#[.int .i64 a0_0,.int .i64 a0_1,.string a0_2]) (t:=61) ?hr ?_;(case hd=>rfl);(case hg=>rfl);(case hr=>first|(go_simp;done)|(go_simp;rfl));intro gb101 hg w4 hbox hb;have n0_:=Aside0.mk (below_step qz1 hb);have n1_:=Aside0.mk (hbox);have n2_:=Aside0.mk ((by rw [hg];exact (below_size qz1):w.heap.size≤gb101));have n3_:=Aside0.mk ((by rw [hg];exact (below_size qz1):w.heap.size≤gb101));clear HB;have HB:=n0_;have BK101:=n1_;have GW101:=n2_;have GE101:=n3_;clear n0_ n1_ n2_ n3_ hb hbox hg;have hcz5_0:w4.cell? ⟨gb101,0,none⟩=some (.int .i64 a0_0):=(blk_cell BK101.out 0).trans rfl;have hcz5_1:w4.cell? ⟨gb101,1,none⟩=some (.int .i64 a0_1):=(blk_cell BK101.out 1).trans rfl;have hcz5_2:w4.cell? ⟨gb101,2,none⟩=some (.string a0_2):=(blk_cell BK101.out 2).trans rfl;have hfz5_0:=blk_frozen BK101.out 0;have hfz5_1:=blk_frozen BK101.out 1;have hfz5_2:=blk_frozen BK101.out 2))
  go_ret
  exact ⟨qz3,qz176⟩
 ·rw [if_neg c3] at H
  have c3b0:decide ((wrap64 (a1 - (a0_2.size:Int)))<0)=false:=decide_eq_false c3
  clear c3
  obtain rfl:=Option.some.inj H
  go_enter Tryd.func28,Tryd.ntmps28
  go_wp2_with (first|((with_reducible refine gate_dst (N:=2) rfl ?_);refine box_event ?hg (N:=2) ?hd (cs:=#[.int .i64 a0_0,.int .i64 a0_1,.string a0_2]) (t:=61) ?hr ?_;(case hd=>rfl);(case hg=>rfl);(case hr=>first|(go_simp;done)|(go_simp;rfl));intro gb101 hg w6 hbox hb;have n0_:=Aside0.mk (below_step qz1 hb);have n1_:=Aside0.mk (hbox);have n2_:=Aside0.mk ((by rw [hg];exact (below_size qz1):w.heap.size≤gb101));have n3_:=Aside0.mk ((by rw [hg];exact (below_size qz1):w.heap.size≤gb101));clear HB;have HB:=n0_;have BK101:=n1_;have GW101:=n2_;have GE101:=n3_;clear n0_ n1_ n2_ n3_ hb hbox hg;have hcz7_0:w6.cell? ⟨gb101,0,none⟩=some (.int .i64 a0_0):=(blk_cell BK101.out 0).trans rfl;have hcz7_1:w6.cell? ⟨gb101,1,none⟩=some (.int .i64 a0_1):=(blk_cell BK101.out 1).trans rfl;have hcz7_2:w6.cell? ⟨gb101,2,none⟩=some (.string a0_2):=(blk_cell BK101.out 2).trans rfl;have hfz7_0:=blk_frozen BK101.out 0;have hfz7_1:=blk_frozen BK101.out 1;have hfz7_2:=blk_frozen BK101.out 2))
  go_ret
  exact ⟨qz3,qz176⟩

/-! ### laws_szTrmCellS: function 7 -/
def laws_szTrmCellS.l0:Nat→List (S61)→Int→Int→Option (Int)
 | 0,_,_,_=>none
 | k+1,x0,x1,x5=>if x5<(x0.length:Int) then (if 0≤x5 then ((laws_szTrmCell.f ((rd_T61 x0 x5).f0) ((rd_T61 x0 x5).f1) ((rd_T61 x0 x5).f2) x1).bind fun t103=>(if t103<0 then (some (-1)) else (laws_szTrmCellS.l0 k x0 t103 (wrap64 (x5+1))))) else (none)) else (some x1)
def laws_szTrmCellS.f (k:Nat) (l0:List (S61)) (a1:Int):Option (Int):=if (wrap64 (a1 - (l0.length:Int)))<0 then (some (-1)) else (laws_szTrmCellS.l0 k l0 (wrap64 (a1 - (l0.length:Int))) 0)
set_option maxHeartbeats 8000000 in
set_option maxRecDepth 100000 in
theorem laws_szTrmCellS.calls (k:Nat) (A0:Option Addr) (c0:Nat) (l0:List (S61)) (a1:Int) (r:Int) (w:World) (hr0:Kd.C k61 w A0 l0.length l0) (hc0:l0.length≤c0) (h:laws_szTrmCellS.f k l0 a1=some r) :
  Calls Tryd.prog 7 #[.slice A0 l0.length c0,.int .i64 a1] w fun e w'=>e = .returned (.int .i64 r)∧Below w.heap.size w w':=by
 have hu61:=Tryd.underlying61
 have HR0:=Aside0.mk hr0
 have HC0:=Aside0.mk hc0
 clear hr0 hc0
 have HB:=Aside0.mk (Below.refl w.heap.size w)
 have H:(if (wrap64 (a1 - (l0.length:Int)))<0 then (some (-1)) else (laws_szTrmCellS.l0 k l0 (wrap64 (a1 - (l0.length:Int))) 0))=some r:=h
 clear h
 by_cases c3:(wrap64 (a1 - (l0.length:Int)))<0
 ·rw [if_pos c3] at H
  have c3b0:decide ((wrap64 (a1 - (l0.length:Int)))<0)=true:=decide_eq_true c3
  clear c3
  obtain rfl:=Option.some.inj H
  go_enter Tryd.func7,Tryd.ntmps7
  go_wp2
  go_ret
  exact ⟨qz3,qz4⟩
 ·rw [if_neg c3] at H
  have c3b0:decide ((wrap64 (a1 - (l0.length:Int)))<0)=false:=decide_eq_false c3
  clear c3
  have H':=Aside0.mk H
  clear H
  go_enter Tryd.func7,Tryd.ntmps7
  go_wp2
  go_loopg [1,5] k (fun kq v1 v5 w'=>∃ (x1_1:Int) (x5_1:Int),v1 = .int .i64 x1_1∧v5 = .int .i64 x5_1∧Aside0 (laws_szTrmCellS.l0 kq l0 x1_1 x5_1=some r)∧Aside0 (kq≤k)∧Aside0 (Below w.heap.size w w'))
  case atStart=>exact ⟨(wrap64 (a1 - (l0.length:Int))),(0),qz12,qz12,H',⟨Nat.le_refl _⟩,⟨qz4⟩⟩
  case round=>
   clear H'
   try clear p2
   try clear c3
   try clear c3b0
   obtain ⟨x1_1,x5_1,rfl,rfl,HA,HK1,HB⟩:=hrel
   cases gk with
   | zero=>exact absurd HA.out (by simp [laws_szTrmCellS.l0])
   | succ k1=>
    have H:=HA.out
    clear HA
    simp only [laws_szTrmCellS.l0] at H
    by_cases c4:x5_1<(l0.length:Int)
    ·rw [if_pos c4] at H
     have c4b0:decide (x5_1<(l0.length:Int))=true:=decide_eq_true c4
     clear c4
     by_cases c5:0≤x5_1
     ·rw [if_pos c5] at H
      have c5b0:decide (0≤x5_1)=true:=decide_eq_true c5
      clear c5
      replace H:=Option.bind_eq_some_iff.mp H
      obtain ⟨t103,A60,H⟩:=H
      try dsimp only at H
      have A6:=Aside0.mk A60
      clear A60
      by_cases c7:t103<0
      ·rw [if_pos c7] at H
       have c7b0:decide (t103<0)=true:=decide_eq_true c7
       clear c7
       obtain rfl:=Option.some.inj H
       have p102:0≤(x5_1:Int):=of_decide_eq_true qz7
       have q102:x5_1<(l0.length:Int):=of_decide_eq_true qz7
       obtain ⟨ad102,e102,hx102_0,hx102_1,hx102_2⟩:=at_T61 HR0.out x5_1 p102 q102
       cases e102
       replace hx102_0:=(HB.out.cell (World.block_lt_of_cell? w _ hx102_0)).trans hx102_0
       replace hx102_1:=(HB.out.cell (World.block_lt_of_cell? w _ hx102_1)).trans hx102_1
       replace hx102_2:=(HB.out.cell (World.block_lt_of_cell? w _ hx102_2)).trans hx102_2
       replace p102:=eq_true p102
       replace q102:=eq_true q102
       go_wp2_with (first|((with_reducible refine gate_callee (f:=28) rfl ?_);refine goesL_ (some 23) rfl rfl Tryd.func28 (by kernel_rfl) rfl #[.agg #[.int .i64 ((rd_T61 l0 x5_1).f0),.int .i64 ((rd_T61 l0 x5_1).f1),.string ((rd_T61 l0 x5_1).f2)],.int .i64 x1_1] rfl qz2 ?_;(with_reducible refine (laws_szTrmCell.calls ((rd_T61 l0 x5_1).f0) ((rd_T61 l0 x5_1).f1) ((rd_T61 l0 x5_1).f2) x1_1 t103 _ A6.out).mono ?_);rintro e w8 ⟨rfl,hb⟩;refine ⟨_,rfl,?_⟩;have n0_:=Aside0.mk (below_step qz1 hb);clear HB;have HB:=n0_;clear n0_;(try clear hb);(try clear hb2);(try clear hk);(try clear hi)))
       go_ret
       exact ⟨qz3,qz4⟩
      ·rw [if_neg c7] at H
       have c7b0:decide (t103<0)=false:=decide_eq_false c7
       clear c7
       have H':=Aside0.mk H
       clear H
       have p102:0≤(x5_1:Int):=of_decide_eq_true qz7
       have q102:x5_1<(l0.length:Int):=of_decide_eq_true qz7
       obtain ⟨ad102,e102,hx102_0,hx102_1,hx102_2⟩:=at_T61 HR0.out x5_1 p102 q102
       cases e102
       replace hx102_0:=(HB.out.cell (World.block_lt_of_cell? w _ hx102_0)).trans hx102_0
       replace hx102_1:=(HB.out.cell (World.block_lt_of_cell? w _ hx102_1)).trans hx102_1
       replace hx102_2:=(HB.out.cell (World.block_lt_of_cell? w _ hx102_2)).trans hx102_2
       replace p102:=eq_true p102
       replace q102:=eq_true q102
       go_wp2_with (first|((with_reducible refine gate_callee (f:=28) rfl ?_);refine goesL_ (some 23) rfl rfl Tryd.func28 (by kernel_rfl) rfl #[.agg #[.int .i64 ((rd_T61 l0 x5_1).f0),.int .i64 ((rd_T61 l0 x5_1).f1),.string ((rd_T61 l0 x5_1).f2)],.int .i64 x1_1] rfl qz2 ?_;(with_reducible refine (laws_szTrmCell.calls ((rd_T61 l0 x5_1).f0) ((rd_T61 l0 x5_1).f1) ((rd_T61 l0 x5_1).f2) x1_1 t103 _ A6.out).mono ?_);rintro e w9 ⟨rfl,hb⟩;refine ⟨_,rfl,?_⟩;have n0_:=Aside0.mk (below_step qz1 hb);clear HB;have HB:=n0_;clear n0_;(try clear hb);(try clear hb2);(try clear hk);(try clear hi)))
       go_roundg k1
       case measure=>have:=HK1.out;omega
       case rel=>exact ⟨(t103),(wrap64 (x5_1+1)),qz12,qz12,H',⟨by have:=HK1.out;omega⟩,⟨qz4⟩⟩
     ·rw [if_neg c5] at H
      exact absurd H (by simp)
    ·rw [if_neg c4] at H
     have c4b0:decide (x5_1<(l0.length:Int))=false:=decide_eq_false c4
     clear c4
     obtain rfl:=Option.some.inj H
     go_wp2
     go_ret
     exact ⟨qz3,qz4⟩

/-! ### laws_szPrgGoal: function 88 -/
def laws_szPrgGoal.f (k:Nat) (a0_0:Int) (l0_1:List (S61)) (l0_2:List (S61)) (l0_3:List (S61)) (a1:Int):Option (Int):=(laws_szTrmCellS.f k l0_1 a1).bind fun t105=>(if t105<0 then (some (-1)) else ((laws_szTrmCellS.f k l0_2 t105).bind fun t106=>(if t106<0 then (some (-1)) else ((laws_szTrmCellS.f k l0_3 t106).bind fun t107=>(if t107<0 then (some (-1)) else (some t107))))))
set_option maxHeartbeats 8000000 in
set_option maxRecDepth 100000 in
theorem laws_szPrgGoal.calls (k:Nat) (a0_0:Int) (A0_1:Option Addr) (c0_1:Nat) (l0_1:List (S61)) (A0_2:Option Addr) (c0_2:Nat) (l0_2:List (S61)) (A0_3:Option Addr) (c0_3:Nat) (l0_3:List (S61)) (a1:Int) (r:Int) (w:World) (hr0_1:Kd.C k61 w A0_1 l0_1.length l0_1) (hc0_1:l0_1.length≤c0_1) (hr0_2:Kd.C k61 w A0_2 l0_2.length l0_2) (hc0_2:l0_2.length≤c0_2) (hr0_3:Kd.C k61 w A0_3 l0_3.length l0_3) (hc0_3:l0_3.length≤c0_3) (h:laws_szPrgGoal.f k a0_0 l0_1 l0_2 l0_3 a1=some r) :
  Calls Tryd.prog 88 #[.agg #[.int .i64 a0_0,.slice A0_1 l0_1.length c0_1,.slice A0_2 l0_2.length c0_2,.slice A0_3 l0_3.length c0_3],.int .i64 a1] w fun e w'=>e = .returned (.int .i64 r)∧Below w.heap.size w w':=by
 have hu120:=Tryd.underlying120
 have HR0_1:=Aside0.mk hr0_1
 have HC0_1:=Aside0.mk hc0_1
 clear hr0_1 hc0_1
 have HR0_2:=Aside0.mk hr0_2
 have HC0_2:=Aside0.mk hc0_2
 clear hr0_2 hc0_2
 have HR0_3:=Aside0.mk hr0_3
 have HC0_3:=Aside0.mk hc0_3
 clear hr0_3 hc0_3
 have HB:=Aside0.mk (Below.refl w.heap.size w)
 have H:((laws_szTrmCellS.f k l0_1 a1).bind fun t105=>(if t105<0 then (some (-1)) else ((laws_szTrmCellS.f k l0_2 t105).bind fun t106=>(if t106<0 then (some (-1)) else ((laws_szTrmCellS.f k l0_3 t106).bind fun t107=>(if t107<0 then (some (-1)) else (some t107)))))))=some r:=h
 clear h
 replace H:=Option.bind_eq_some_iff.mp H
 obtain ⟨t105,A30,H⟩:=H
 try dsimp only at H
 have A3:=Aside0.mk A30
 clear A30
 by_cases c4:t105<0
 ·rw [if_pos c4] at H
  have c4b0:decide (t105<0)=true:=decide_eq_true c4
  clear c4
  obtain rfl:=Option.some.inj H
  go_enter Tryd.func88,Tryd.ntmps88
  go_wp2_with (first|((with_reducible refine gate_dst (N:=2) rfl ?_);refine box_event ?hg (N:=2) ?hd (cs:=#[.int .i64 a0_0,.slice A0_1 l0_1.length c0_1,.slice A0_2 l0_2.length c0_2,.slice A0_3 l0_3.length c0_3]) (t:=120) ?hr ?_;(case hd=>rfl);(case hg=>rfl);(case hr=>first|(go_simp;done)|(go_simp;rfl));intro gb104 hg w5 hbox hb;have n0_:=Aside0.mk (below_step qz1 hb);have n1_:=Aside0.mk (hbox);have n2_:=Aside0.mk ((by rw [hg];exact (below_size qz1):w.heap.size≤gb104));have n3_:=Aside0.mk ((by rw [hg];exact (below_size qz1):w.heap.size≤gb104));clear HB;have HB:=n0_;have BK104:=n1_;have GW104:=n2_;have GE104:=n3_;clear n0_ n1_ n2_ n3_ hb hbox hg;have hcz6_0:w5.cell? ⟨gb104,0,none⟩=some (.int .i64 a0_0):=(blk_cell BK104.out 0).trans rfl;have hcz6_1:w5.cell? ⟨gb104,1,none⟩=some (.slice A0_1 l0_1.length c0_1):=(blk_cell BK104.out 1).trans rfl;have hcz6_2:w5.cell? ⟨gb104,2,none⟩=some (.slice A0_2 l0_2.length c0_2):=(blk_cell BK104.out 2).trans rfl;have hcz6_3:w5.cell? ⟨gb104,3,none⟩=some (.slice A0_3 l0_3.length c0_3):=(blk_cell BK104.out 3).trans rfl;have hfz6_0:=blk_frozen BK104.out 0;have hfz6_1:=blk_frozen BK104.out 1;have hfz6_2:=blk_frozen BK104.out 2;have hfz6_3:=blk_frozen BK104.out 3)|((with_reducible refine gate_callee (f:=7) rfl ?_);refine goesL_ (some 8) rfl rfl Tryd.func7 (by kernel_rfl) rfl #[.slice A0_1 l0_1.length c0_1,.int .i64 a1] rfl qz2 ?_;(with_reducible refine (laws_szTrmCellS.calls k _ _ l0_1 a1 t105 _ ?side1 ?side2 A3.out).mono ?_);(case side1=>exact qz5);(case side2=>exact HC0_1.out);rintro e w7 ⟨rfl,hb⟩;refine ⟨_,rfl,?_⟩;have n0_:=Aside0.mk (blk_below (g:=gb104) (o:=.cells #[.int .i64 a0_0,.slice A0_1 l0_1.length c0_1,.slice A0_2 l0_2.length c0_2,.slice A0_3 l0_3.length c0_3] 120 (0,0)) qz78 hb);have n1_:=Aside0.mk (below_step qz40 hb);clear BK104 HB;have BK104:=n0_;have HB:=n1_;clear n0_ n1_;(try clear hb);(try clear hb2);(try clear hk);(try clear hi)))
  go_ret
  exact ⟨qz3,qz40⟩
 ·rw [if_neg c4] at H
  have c4b0:decide (t105<0)=false:=decide_eq_false c4
  clear c4
  replace H:=Option.bind_eq_some_iff.mp H
  obtain ⟨t106,A80,H⟩:=H
  try dsimp only at H
  have A8:=Aside0.mk A80
  clear A80
  by_cases c9:t106<0
  ·rw [if_pos c9] at H
   have c9b0:decide (t106<0)=true:=decide_eq_true c9
   clear c9
   obtain rfl:=Option.some.inj H
   go_enter Tryd.func88,Tryd.ntmps88
   go_wp2_with (first|((with_reducible refine gate_dst (N:=2) rfl ?_);refine box_event ?hg (N:=2) ?hd (cs:=#[.int .i64 a0_0,.slice A0_1 l0_1.length c0_1,.slice A0_2 l0_2.length c0_2,.slice A0_3 l0_3.length c0_3]) (t:=120) ?hr ?_;(case hd=>rfl);(case hg=>rfl);(case hr=>first|(go_simp;done)|(go_simp;rfl));intro gb104 hg w10 hbox hb;have n0_:=Aside0.mk (below_step qz1 hb);have n1_:=Aside0.mk (hbox);have n2_:=Aside0.mk ((by rw [hg];exact (below_size qz1):w.heap.size≤gb104));have n3_:=Aside0.mk ((by rw [hg];exact (below_size qz1):w.heap.size≤gb104));clear HB;have HB:=n0_;have BK104:=n1_;have GW104:=n2_;have GE104:=n3_;clear n0_ n1_ n2_ n3_ hb hbox hg;have hcz11_0:w10.cell? ⟨gb104,0,none⟩=some (.int .i64 a0_0):=(blk_cell BK104.out 0).trans rfl;have hcz11_1:w10.cell? ⟨gb104,1,none⟩=some (.slice A0_1 l0_1.length c0_1):=(blk_cell BK104.out 1).trans rfl;have hcz11_2:w10.cell? ⟨gb104,2,none⟩=some (.slice A0_2 l0_2.length c0_2):=(blk_cell BK104.out 2).trans rfl;have hcz11_3:w10.cell? ⟨gb104,3,none⟩=some (.slice A0_3 l0_3.length c0_3):=(blk_cell BK104.out 3).trans rfl;have hfz11_0:=blk_frozen BK104.out 0;have hfz11_1:=blk_frozen BK104.out 1;have hfz11_2:=blk_frozen BK104.out 2;have hfz11_3:=blk_frozen BK104.out 3)|((with_reducible refine gate_callee (f:=7) rfl ?_);refine goesL_ (some 8) rfl rfl Tryd.func7 (by kernel_rfl) rfl #[.slice A0_1 l0_1.length c0_1,.int .i64 a1] rfl qz2 ?_;(with_reducible refine (laws_szTrmCellS.calls k _ _ l0_1 a1 t105 _ ?side1 ?side2 A3.out).mono ?_);(case side1=>exact qz5);(case side2=>exact HC0_1.out);rintro e w12 ⟨rfl,hb⟩;refine ⟨_,rfl,?_⟩;have n0_:=Aside0.mk (blk_below (g:=gb104) (o:=.cells #[.int .i64 a0_0,.slice A0_1 l0_1.length c0_1,.slice A0_2 l0_2.length c0_2,.slice A0_3 l0_3.length c0_3] 120 (0,0)) qz78 hb);have n1_:=Aside0.mk (below_step qz40 hb);clear BK104 HB;have BK104:=n0_;have HB:=n1_;clear n0_ n1_;(try clear hb);(try clear hb2);(try clear hk);(try clear hi);have hcz13_0:w12.cell? ⟨gb104,0,none⟩=some (.int .i64 a0_0):=(blk_cell BK104.out 0).trans rfl;have hcz13_1:w12.cell? ⟨gb104,1,none⟩=some (.slice A0_1 l0_1.length c0_1):=(blk_cell BK104.out 1).trans rfl;have hcz13_2:w12.cell? ⟨gb104,2,none⟩=some (.slice A0_2 l0_2.length c0_2):=(blk_cell BK104.out 2).trans rfl;have hcz13_3:w12.cell? ⟨gb104,3,none⟩=some (.slice A0_3 l0_3.length c0_3):=(blk_cell BK104.out 3).trans rfl;have hfz13_0:=blk_frozen BK104.out 0;have hfz13_1:=blk_frozen BK104.out 1;have hfz13_2:=blk_frozen BK104.out 2;have hfz13_3:=blk_frozen BK104.out 3)|((with_reducible refine gate_callee (f:=7) rfl ?_);refine goesL_ (some 14) rfl rfl Tryd.func7 (by kernel_rfl) rfl #[.slice A0_2 l0_2.length c0_2,.int .i64 t105] rfl qz2 ?_;(with_reducible refine (laws_szTrmCellS.calls k _ _ l0_2 t105 t106 _ ?side1 ?side2 A8.out).mono ?_);(case side1=>exact qz25);(case side2=>exact HC0_2.out);rintro e w14 ⟨rfl,hb⟩;refine ⟨_,rfl,?_⟩;have n0_:=Aside0.mk (blk_below (g:=gb104) (o:=.cells #[.int .i64 a0_0,.slice A0_1 l0_1.length c0_1,.slice A0_2 l0_2.length c0_2,.slice A0_3 l0_3.length c0_3] 120 (0,0)) qz78 hb);have n1_:=Aside0.mk (below_step qz40 hb);clear BK104 HB;have BK104:=n0_;have HB:=n1_;clear n0_ n1_;(try clear hb);(try clear hb2);(try clear hk);(try clear hi)))
   go_ret
   exact ⟨qz3,qz40⟩
  ·rw [if_neg c9] at H
   have c9b0:decide (t106<0)=false:=decide_eq_false c9
   clear c9
   replace H:=Option.bind_eq_some_iff.mp H
   obtain ⟨t107,A150,H⟩:=H
   try dsimp only at H
   have A15:=Aside0.mk A150
   clear A150
   by_cases c16:t107<0
   ·rw [if_pos c16] at H
    have c16b0:decide (t107<0)=true:=decide_eq_true c16
    clear c16
    obtain rfl:=Option.some.inj H
    go_enter Tryd.func88,Tryd.ntmps88
    go_wp2_with (first|((with_reducible refine gate_dst (N:=2) rfl ?_);refine box_event ?hg (N:=2) ?hd (cs:=#[.int .i64 a0_0,.slice A0_1 l0_1.length c0_1,.slice A0_2 l0_2.length c0_2,.slice A0_3 l0_3.length c0_3]) (t:=120) ?hr ?_;(case hd=>rfl);(case hg=>rfl);(case hr=>first|(go_simp;done)|(go_simp;rfl));intro gb104 hg w17 hbox hb;have n0_:=Aside0.mk (below_step qz1 hb);have n1_:=Aside0.mk (hbox);have n2_:=Aside0.mk ((by rw [hg];exact (below_size qz1):w.heap.size≤gb104));have n3_:=Aside0.mk ((by rw [hg];exact (below_size qz1):w.heap.size≤gb104));clear HB;have HB:=n0_;have BK104:=n1_;have GW104:=n2_;have GE104:=n3_;clear n0_ n1_ n2_ n3_ hb hbox hg;have hcz18_0:w17.cell? ⟨gb104,0,none⟩=some (.int .i64 a0_0):=(blk_cell BK104.out 0).trans rfl;have hcz18_1:w17.cell? ⟨gb104,1,none⟩=some (.slice A0_1 l0_1.length c0_1):=(blk_cell BK104.out 1).trans rfl;have hcz18_2:w17.cell? ⟨gb104,2,none⟩=some (.slice A0_2 l0_2.length c0_2):=(blk_cell BK104.out 2).trans rfl;have hcz18_3:w17.cell? ⟨gb104,3,none⟩=some (.slice A0_3 l0_3.length c0_3):=(blk_cell BK104.out 3).trans rfl;have hfz18_0:=blk_frozen BK104.out 0;have hfz18_1:=blk_frozen BK104.out 1;have hfz18_2:=blk_frozen BK104.out 2;have hfz18_3:=blk_frozen BK104.out 3)|((with_reducible refine gate_callee (f:=7) rfl ?_);refine goesL_ (some 8) rfl rfl Tryd.func7 (by kernel_rfl) rfl #[.slice A0_1 l0_1.length c0_1,.int .i64 a1] rfl qz2 ?_;(with_reducible refine (laws_szTrmCellS.calls k _ _ l0_1 a1 t105 _ ?side1 ?side2 A3.out).mono ?_);(case side1=>exact qz5);(case side2=>exact HC0_1.out);rintro e w19 ⟨rfl,hb⟩;refine ⟨_,rfl,?_⟩;have n0_:=Aside0.mk (blk_below (g:=gb104) (o:=.cells #[.int .i64 a0_0,.slice A0_1 l0_1.length c0_1,.slice A0_2 l0_2.length c0_2,.slice A0_3 l0_3.length c0_3] 120 (0,0)) qz78 hb);have n1_:=Aside0.mk (below_step qz40 hb);clear BK104 HB;have BK104:=n0_;have HB:=n1_;clear n0_ n1_;(try clear hb);(try clear hb2);(try clear hk);(try clear hi);have hcz20_0:w19.cell? ⟨gb104,0,none⟩=some (.int .i64 a0_0):=(blk_cell BK104.out 0).trans rfl;have hcz20_1:w19.cell? ⟨gb104,1,none⟩=some (.slice A0_1 l0_1.length c0_1):=(blk_cell BK104.out 1).trans rfl;have hcz20_2:w19.cell? ⟨gb104,2,none⟩=some (.slice A0_2 l0_2.length c0_2):=(blk_cell BK104.out 2).trans rfl;have hcz20_3:w19.cell? ⟨gb104,3,none⟩=some (.slice A0_3 l0_3.length c0_3):=(blk_cell BK104.out 3).trans rfl;have hfz20_0:=blk_frozen BK104.out 0;have hfz20_1:=blk_frozen BK104.out 1;have hfz20_2:=blk_frozen BK104.out 2;have hfz20_3:=blk_frozen BK104.out 3)|((with_reducible refine gate_callee (f:=7) rfl ?_);refine goesL_ (some 14) rfl rfl Tryd.func7 (by kernel_rfl) rfl #[.slice A0_2 l0_2.length c0_2,.int .i64 t105] rfl qz2 ?_;(with_reducible refine (laws_szTrmCellS.calls k _ _ l0_2 t105 t106 _ ?side1 ?side2 A8.out).mono ?_);(case side1=>exact qz25);(case side2=>exact HC0_2.out);rintro e w21 ⟨rfl,hb⟩;refine ⟨_,rfl,?_⟩;have n0_:=Aside0.mk (blk_below (g:=gb104) (o:=.cells #[.int .i64 a0_0,.slice A0_1 l0_1.length c0_1,.slice A0_2 l0_2.length c0_2,.slice A0_3 l0_3.length c0_3] 120 (0,0)) qz78 hb);have n1_:=Aside0.mk (below_step qz40 hb);clear BK104 HB;have BK104:=n0_;have HB:=n1_;clear n0_ n1_;(try clear hb);(try clear hb2);(try clear hk);(try clear hi);have hcz22_0:w21.cell? ⟨gb104,0,none⟩=some (.int .i64 a0_0):=(blk_cell BK104.out 0).trans rfl;have hcz22_1:w21.cell? ⟨gb104,1,none⟩=some (.slice A0_1 l0_1.length c0_1):=(blk_cell BK104.out 1).trans rfl;have hcz22_2:w21.cell? ⟨gb104,2,none⟩=some (.slice A0_2 l0_2.length c0_2):=(blk_cell BK104.out 2).trans rfl;have hcz22_3:w21.cell? ⟨gb104,3,none⟩=some (.slice A0_3 l0_3.length c0_3):=(blk_cell BK104.out 3).trans rfl;have hfz22_0:=blk_frozen BK104.out 0;have hfz22_1:=blk_frozen BK104.out 1;have hfz22_2:=blk_frozen BK104.out 2;have hfz22_3:=blk_frozen BK104.out 3)|((with_reducible refine gate_callee (f:=7) rfl ?_);refine goesL_ (some 20) rfl rfl Tryd.func7 (by kernel_rfl) rfl #[.slice A0_3 l0_3.length c0_3,.int .i64 t106] rfl qz2 ?_;(with_reducible refine (laws_szTrmCellS.calls k _ _ l0_3 t106 t107 _ ?side1 ?side2 A15.out).mono ?_);(case side1=>exact qz52);(case side2=>exact HC0_3.out);rintro e w23 ⟨rfl,hb⟩;refine ⟨_,rfl,?_⟩;have n0_:=Aside0.mk (blk_below (g:=gb104) (o:=.cells #[.int .i64 a0_0,.slice A0_1 l0_1.length c0_1,.slice A0_2 l0_2.length c0_2,.slice A0_3 l0_3.length c0_3] 120 (0,0)) qz78 hb);have n1_:=Aside0.mk (below_step qz40 hb);clear BK104 HB;have BK104:=n0_;have HB:=n1_;clear n0_ n1_;(try clear hb);(try clear hb2);(try clear hk);(try clear hi)))
    go_ret
    exact ⟨qz3,qz40⟩
   ·rw [if_neg c16] at H
    have c16b0:decide (t107<0)=false:=decide_eq_false c16
    clear c16
    obtain rfl:=Option.some.inj H
    go_enter Tryd.func88,Tryd.ntmps88
    go_wp2_with (first|((with_reducible refine gate_dst (N:=2) rfl ?_);refine box_event ?hg (N:=2) ?hd (cs:=#[.int .i64 a0_0,.slice A0_1 l0_1.length c0_1,.slice A0_2 l0_2.length c0_2,.slice A0_3 l0_3.length c0_3]) (t:=120) ?hr ?_;(case hd=>rfl);(case hg=>rfl);(case hr=>first|(go_simp;done)|(go_simp;rfl));intro gb104 hg w24 hbox hb;have n0_:=Aside0.mk (below_step qz1 hb);have n1_:=Aside0.mk (hbox);have n2_:=Aside0.mk ((by rw [hg];exact (below_size qz1):w.heap.size≤gb104));have n3_:=Aside0.mk ((by rw [hg];exact (below_size qz1):w.heap.size≤gb104));clear HB;have HB:=n0_;have BK104:=n1_;have GW104:=n2_;have GE104:=n3_;clear n0_ n1_ n2_ n3_ hb hbox hg;have hcz25_0:w24.cell? ⟨gb104,0,none⟩=some (.int .i64 a0_0):=(blk_cell BK104.out 0).trans rfl;have hcz25_1:w24.cell? ⟨gb104,1,none⟩=some (.slice A0_1 l0_1.length c0_1):=(blk_cell BK104.out 1).trans rfl;have hcz25_2:w24.cell? ⟨gb104,2,none⟩=some (.slice A0_2 l0_2.length c0_2):=(blk_cell BK104.out 2).trans rfl;have hcz25_3:w24.cell? ⟨gb104,3,none⟩=some (.slice A0_3 l0_3.length c0_3):=(blk_cell BK104.out 3).trans rfl;have hfz25_0:=blk_frozen BK104.out 0;have hfz25_1:=blk_frozen BK104.out 1;have hfz25_2:=blk_frozen BK104.out 2;have hfz25_3:=blk_frozen BK104.out 3)|((with_reducible refine gate_callee (f:=7) rfl ?_);refine goesL_ (some 8) rfl rfl Tryd.func7 (by kernel_rfl) rfl #[.slice A0_1 l0_1.length c0_1,.int .i64 a1] rfl qz2 ?_;(with_reducible refine (laws_szTrmCellS.calls k _ _ l0_1 a1 t105 _ ?side1 ?side2 A3.out).mono ?_);(case side1=>exact qz5);(case side2=>exact HC0_1.out);rintro e w26 ⟨rfl,hb⟩;refine ⟨_,rfl,?_⟩;have n0_:=Aside0.mk (blk_below (g:=gb104) (o:=.cells #[.int .i64 a0_0,.slice A0_1 l0_1.length c0_1,.slice A0_2 l0_2.length c0_2,.slice A0_3 l0_3.length c0_3] 120 (0,0)) qz78 hb);have n1_:=Aside0.mk (below_step qz40 hb);clear BK104 HB;have BK104:=n0_;have HB:=n1_;clear n0_ n1_;(try clear hb);(try clear hb2);(try clear hk);(try clear hi);have hcz27_0:w26.cell? ⟨gb104,0,none⟩=some (.int .i64 a0_0):=(blk_cell BK104.out 0).trans rfl;have hcz27_1:w26.cell? ⟨gb104,1,none⟩=some (.slice A0_1 l0_1.length c0_1):=(blk_cell BK104.out 1).trans rfl;have hcz27_2:w26.cell? ⟨gb104,2,none⟩=some (.slice A0_2 l0_2.length c0_2):=(blk_cell BK104.out 2).trans rfl;have hcz27_3:w26.cell? ⟨gb104,3,none⟩=some (.slice A0_3 l0_3.length c0_3):=(blk_cell BK104.out 3).trans rfl;have hfz27_0:=blk_frozen BK104.out 0;have hfz27_1:=blk_frozen BK104.out 1;have hfz27_2:=blk_frozen BK104.out 2;have hfz27_3:=blk_frozen BK104.out 3)|((with_reducible refine gate_callee (f:=7) rfl ?_);refine goesL_ (some 14) rfl rfl Tryd.func7 (by kernel_rfl) rfl #[.slice A0_2 l0_2.length c0_2,.int .i64 t105] rfl qz2 ?_;(with_reducible refine (laws_szTrmCellS.calls k _ _ l0_2 t105 t106 _ ?side1 ?side2 A8.out).mono ?_);(case side1=>exact qz25);(case side2=>exact HC0_2.out);rintro e w28 ⟨rfl,hb⟩;refine ⟨_,rfl,?_⟩;have n0_:=Aside0.mk (blk_below (g:=gb104) (o:=.cells #[.int .i64 a0_0,.slice A0_1 l0_1.length c0_1,.slice A0_2 l0_2.length c0_2,.slice A0_3 l0_3.length c0_3] 120 (0,0)) qz78 hb);have n1_:=Aside0.mk (below_step qz40 hb);clear BK104 HB;have BK104:=n0_;have HB:=n1_;clear n0_ n1_;(try clear hb);(try clear hb2);(try clear hk);(try clear hi);have hcz29_0:w28.cell? ⟨gb104,0,none⟩=some (.int .i64 a0_0):=(blk_cell BK104.out 0).trans rfl;have hcz29_1:w28.cell? ⟨gb104,1,none⟩=some (.slice A0_1 l0_1.length c0_1):=(blk_cell BK104.out 1).trans rfl;have hcz29_2:w28.cell? ⟨gb104,2,none⟩=some (.slice A0_2 l0_2.length c0_2):=(blk_cell BK104.out 2).trans rfl;have hcz29_3:w28.cell? ⟨gb104,3,none⟩=some (.slice A0_3 l0_3.length c0_3):=(blk_cell BK104.out 3).trans rfl;have hfz29_0:=blk_frozen BK104.out 0;have hfz29_1:=blk_frozen BK104.out 1;have hfz29_2:=blk_frozen BK104.out 2;have hfz29_3:=blk_frozen BK104.out 3)|((with_reducible refine gate_callee (f:=7) rfl ?_);refine goesL_ (some 20) rfl rfl Tryd.func7 (by kernel_rfl) rfl #[.slice A0_3 l0_3.length c0_3,.int .i64 t106] rfl qz2 ?_;(with_reducible refine (laws_szTrmCellS.calls k _ _ l0_3 t106 t107 _ ?side1 ?side2 A15.out).mono ?_);(case side1=>exact qz52);(case side2=>exact HC0_3.out);rintro e w30 ⟨rfl,hb⟩;refine ⟨_,rfl,?_⟩;have n0_:=Aside0.mk (blk_below (g:=gb104) (o:=.cells #[.int .i64 a0_0,.slice A0_1 l0_1.length c0_1,.slice A0_2 l0_2.length c0_2,.slice A0_3 l0_3.length c0_3] 120 (0,0)) qz78 hb);have n1_:=Aside0.mk (below_step qz40 hb);clear BK104 HB;have BK104:=n0_;have HB:=n1_;clear n0_ n1_;(try clear hb);(try clear hb2);(try clear hk);(try clear hi)))
    go_ret
    exact ⟨qz3,qz40⟩

/-! ### laws_szPrgGoalS: function 74 -/
def laws_szPrgGoalS.l0:Nat→List (S120)→Int→Int→Option (Int)
 | 0,_,_,_=>none
 | k+1,x0,x1,x5=>if x5<(x0.length:Int) then (if 0≤x5 then ((laws_szPrgGoal.f k ((rd_T120 x0 x5).f0) ((rd_T120 x0 x5).f1) ((rd_T120 x0 x5).f2) ((rd_T120 x0 x5).f3) x1).bind fun t109=>(if t109<0 then (some (-1)) else (laws_szPrgGoalS.l0 k x0 t109 (wrap64 (x5+1))))) else (none)) else (some x1)
def laws_szPrgGoalS.f (k:Nat) (l0:List (S120)) (a1:Int):Option (Int):=if (wrap64 (a1 - (l0.length:Int)))<0 then (some (-1)) else (laws_szPrgGoalS.l0 k l0 (wrap64 (a1 - (l0.length:Int))) 0)
set_option maxHeartbeats 8000000 in
set_option maxRecDepth 100000 in
theorem laws_szPrgGoalS.calls (k:Nat) (A0:Option Addr) (c0:Nat) (l0:List (S120)) (a1:Int) (r:Int) (w:World) (hr0:Kd.C k120 w A0 l0.length l0) (hc0:l0.length≤c0) (h:laws_szPrgGoalS.f k l0 a1=some r) :
  Calls Tryd.prog 74 #[.slice A0 l0.length c0,.int .i64 a1] w fun e w'=>e = .returned (.int .i64 r)∧Below w.heap.size w w':=by
 have hu120:=Tryd.underlying120
 have HR0:=Aside0.mk hr0
 have HC0:=Aside0.mk hc0
 clear hr0 hc0
 have HB:=Aside0.mk (Below.refl w.heap.size w)
 have H:(if (wrap64 (a1 - (l0.length:Int)))<0 then (some (-1)) else (laws_szPrgGoalS.l0 k l0 (wrap64 (a1 - (l0.length:Int))) 0))=some r:=h
 clear h
 by_cases c3:(wrap64 (a1 - (l0.length:Int)))<0
 ·rw [if_pos c3] at H
  have c3b0:decide ((wrap64 (a1 - (l0.length:Int)))<0)=true:=decide_eq_true c3
  clear c3
  obtain rfl:=Option.some.inj H
  go_enter Tryd.func74,Tryd.ntmps74
  go_wp2
  go_ret
  exact ⟨qz3,qz4⟩
 ·rw [if_neg c3] at H
  have c3b0:decide ((wrap64 (a1 - (l0.length:Int)))<0)=false:=decide_eq_false c3
  clear c3
  have H':=Aside0.mk H
  clear H
  go_enter Tryd.func74,Tryd.ntmps74
  go_wp2
  go_loopg [1,5] k (fun kq v1 v5 w'=>∃ (x1_1:Int) (x5_1:Int),v1 = .int .i64 x1_1∧v5 = .int .i64 x5_1∧Aside0 (laws_szPrgGoalS.l0 kq l0 x1_1 x5_1=some r)∧Aside0 (kq≤k)∧Aside0 (Below w.heap.size w w'))
  case atStart=>exact ⟨(wrap64 (a1 - (l0.length:Int))),(0),qz12,qz12,H',⟨Nat.le_refl _⟩,⟨qz4⟩⟩
  case round=>
   clear H'
   try clear p2
   try clear c3
   try clear c3b0
   obtain ⟨x1_1,x5_1,rfl,rfl,HA,HK1,HB⟩:=hrel
   cases gk with
   | zero=>exact absurd HA.out (by simp [laws_szPrgGoalS.l0])
   | succ k1=>
    have H:=HA.out
    clear HA
    simp only [laws_szPrgGoalS.l0] at H
    by_cases c4:x5_1<(l0.length:Int)
    ·rw [if_pos c4] at H
     have c4b0:decide (x5_1<(l0.length:Int))=true:=decide_eq_true c4
     clear c4
     by_cases c5:0≤x5_1
     ·rw [if_pos c5] at H
      have c5b0:decide (0≤x5_1)=true:=decide_eq_true c5
      clear c5
      replace H:=Option.bind_eq_some_iff.mp H
      obtain ⟨t109,A60,H⟩:=H
      try dsimp only at H
      have A6:=Aside0.mk A60
      clear A60
      by_cases c7:t109<0
      ·rw [if_pos c7] at H
       have c7b0:decide (t109<0)=true:=decide_eq_true c7
       clear c7
       obtain rfl:=Option.some.inj H
       have p108:0≤(x5_1:Int):=of_decide_eq_true qz7
       have q108:x5_1<(l0.length:Int):=of_decide_eq_true qz7
       obtain ⟨ad108,A108_1,c108_1,A108_2,c108_2,A108_3,c108_3,e108,hx108_0,hx108_1,hx108_2,hx108_3,hl108_1,hi108_1,hl108_2,hi108_2,hl108_3,hi108_3⟩:=at_T120 HR0.out x5_1 p108 q108
       cases e108
       replace hx108_0:=(HB.out.cell (World.block_lt_of_cell? w _ hx108_0)).trans hx108_0
       replace hx108_1:=(HB.out.cell (World.block_lt_of_cell? w _ hx108_1)).trans hx108_1
       replace hx108_2:=(HB.out.cell (World.block_lt_of_cell? w _ hx108_2)).trans hx108_2
       replace hx108_3:=(HB.out.cell (World.block_lt_of_cell? w _ hx108_3)).trans hx108_3
       have HR108_1:=Aside0.mk hi108_1
       have HC108_1:=Aside0.mk hl108_1
       clear hi108_1 hl108_1
       have HR108_2:=Aside0.mk hi108_2
       have HC108_2:=Aside0.mk hl108_2
       clear hi108_2 hl108_2
       have HR108_3:=Aside0.mk hi108_3
       have HC108_3:=Aside0.mk hl108_3
       clear hi108_3 hl108_3
       replace p108:=eq_true p108
       replace q108:=eq_true q108
       go_wp2_with (first|((with_reducible refine gate_callee (f:=88) rfl ?_);refine goesL_ (some 23) rfl rfl Tryd.func88 (by kernel_rfl) rfl #[.agg #[.int .i64 ((rd_T120 l0 x5_1).f0),.slice A108_1 ((rd_T120 l0 x5_1).f1).length c108_1,.slice A108_2 ((rd_T120 l0 x5_1).f2).length c108_2,.slice A108_3 ((rd_T120 l0 x5_1).f3).length c108_3],.int .i64 x1_1] rfl qz2 ?_;(with_reducible refine (laws_szPrgGoal.calls k1 ((rd_T120 l0 x5_1).f0) _ _ ((rd_T120 l0 x5_1).f1) _ _ ((rd_T120 l0 x5_1).f2) _ _ ((rd_T120 l0 x5_1).f3) x1_1 t109 _ ?side1 ?side2 ?side3 ?side4 ?side5 ?side6 A6.out).mono ?_);(case side1=>exact qz169);(case side2=>exact HC108_1.out);(case side3=>exact qz168);(case side4=>exact HC108_2.out);(case side5=>exact qz167);(case side6=>exact HC108_3.out);rintro e w8 ⟨rfl,hb⟩;refine ⟨_,rfl,?_⟩;have n0_:=Aside0.mk (below_step qz1 hb);clear HB;have HB:=n0_;clear n0_;(try clear hb);(try clear hb2);(try clear hk);(try clear hi)))
       go_ret
       exact ⟨qz3,qz4⟩
      ·rw [if_neg c7] at H
       have c7b0:decide (t109<0)=false:=decide_eq_false c7
       clear c7
       have H':=Aside0.mk H
       clear H
       have p108:0≤(x5_1:Int):=of_decide_eq_true qz7
       have q108:x5_1<(l0.length:Int):=of_decide_eq_true qz7
       obtain ⟨ad108,A108_1,c108_1,A108_2,c108_2,A108_3,c108_3,e108,hx108_0,hx108_1,hx108_2,hx108_3,hl108_1,hi108_1,hl108_2,hi108_2,hl108_3,hi108_3⟩:=at_T120 HR0.out x5_1 p108 q108
       cases e108
       replace hx108_0:=(HB.out.cell (World.block_lt_of_cell? w _ hx108_0)).trans hx108_0
       replace hx108_1:=(HB.out.cell (World.block_lt_of_cell? w _ hx108_1)).trans hx108_1
       replace hx108_2:=(HB.out.cell (World.block_lt_of_cell? w _ hx108_2)).trans hx108_2
       replace hx108_3:=(HB.out.cell (World.block_lt_of_cell? w _ hx108_3)).trans hx108_3
       have HR108_1:=Aside0.mk hi108_1
       have HC108_1:=Aside0.mk hl108_1
       clear hi108_1 hl108_1
       have HR108_2:=Aside0.mk hi108_2
       have HC108_2:=Aside0.mk hl108_2
       clear hi108_2 hl108_2
       have HR108_3:=Aside0.mk hi108_3
       have HC108_3:=Aside0.mk hl108_3
       clear hi108_3 hl108_3
       replace p108:=eq_true p108
       replace q108:=eq_true q108
       go_wp2_with (first|((with_reducible refine gate_callee (f:=88) rfl ?_);refine goesL_ (some 23) rfl rfl Tryd.func88 (by kernel_rfl) rfl #[.agg #[.int .i64 ((rd_T120 l0 x5_1).f0),.slice A108_1 ((rd_T120 l0 x5_1).f1).length c108_1,.slice A108_2 ((rd_T120 l0 x5_1).f2).length c108_2,.slice A108_3 ((rd_T120 l0 x5_1).f3).length c108_3],.int .i64 x1_1] rfl qz2 ?_;(with_reducible refine (laws_szPrgGoal.calls k1 ((rd_T120 l0 x5_1).f0) _ _ ((rd_T120 l0 x5_1).f1) _ _ ((rd_T120 l0 x5_1).f2) _ _ ((rd_T120 l0 x5_1).f3) x1_1 t109 _ ?side1 ?side2 ?side3 ?side4 ?side5 ?side6 A6.out).mono ?_);(case side1=>exact qz169);(case side2=>exact HC108_1.out);(case side3=>exact qz168);(case side4=>exact HC108_2.out);(case side5=>exact qz167);(case side6=>exact HC108_3.out);rintro e w9 ⟨rfl,hb⟩;refine ⟨_,rfl,?_⟩;have n0_:=Aside0.mk (below_step qz1 hb);clear HB;have HB:=n0_;clear n0_;(try clear hb);(try clear hb2);(try clear hk);(try clear hi)))
       go_roundg k1
       case measure=>have:=HK1.out;omega
       case rel=>exact ⟨(t109),(wrap64 (x5_1+1)),qz12,qz12,H',⟨by have:=HK1.out;omega⟩,⟨qz4⟩⟩
     ·rw [if_neg c5] at H
      exact absurd H (by simp)
    ·rw [if_neg c4] at H
     have c4b0:decide (x5_1<(l0.length:Int))=false:=decide_eq_false c4
     clear c4
     obtain rfl:=Option.some.inj H
     go_wp2
     go_ret
     exact ⟨qz3,qz4⟩

/-! ### laws_szPrgClause: function 49 -/
def laws_szPrgClause.f (k:Nat) (l0_0:List (S61)) (l0_1:List (S120)) (a1:Int):Option (Int):=(laws_szTrmCellS.f k l0_0 a1).bind fun t111=>(if t111<0 then (some (-1)) else ((laws_szPrgGoalS.f k l0_1 t111).bind fun t112=>(if t112<0 then (some (-1)) else (some t112))))
set_option maxHeartbeats 8000000 in
set_option maxRecDepth 100000 in
theorem laws_szPrgClause.calls (k:Nat) (A0_0:Option Addr) (c0_0:Nat) (l0_0:List (S61)) (A0_1:Option Addr) (c0_1:Nat) (l0_1:List (S120)) (a1:Int) (r:Int) (w:World) (hr0_0:Kd.C k61 w A0_0 l0_0.length l0_0) (hc0_0:l0_0.length≤c0_0) (hr0_1:Kd.C k120 w A0_1 l0_1.length l0_1) (hc0_1:l0_1.length≤c0_1) (h:laws_szPrgClause.f k l0_0 l0_1 a1=some r) :
  Calls Tryd.prog 49 #[.agg #[.slice A0_0 l0_0.length c0_0,.slice A0_1 l0_1.length c0_1],.int .i64 a1] w fun e w'=>e = .returned (.int .i64 r)∧Below w.heap.size w w':=by
 have hu79:=Tryd.underlying79
 have HR0_0:=Aside0.mk hr0_0
 have HC0_0:=Aside0.mk hc0_0
 clear hr0_0 hc0_0
 have HR0_1:=Aside0.mk hr0_1
 have HC0_1:=Aside0.mk hc0_1
 clear hr0_1 hc0_1
 have HB:=Aside0.mk (Below.refl w.heap.size w)
 have H:((laws_szTrmCellS.f k l0_0 a1).bind fun t111=>(if t111<0 then (some (-1)) else ((laws_szPrgGoalS.f k l0_1 t111).bind fun t112=>(if t112<0 then (some (-1)) else (some t112)))))=some r:=h
 clear h
 replace H:=Option.bind_eq_some_iff.mp H
 obtain ⟨t111,A30,H⟩:=H
 try dsimp only at H
 have A3:=Aside0.mk A30
 clear A30
 by_cases c4:t111<0
 ·rw [if_pos c4] at H
  have c4b0:decide (t111<0)=true:=decide_eq_true c4
  clear c4
  obtain rfl:=Option.some.inj H
  go_enter Tryd.func49,Tryd.ntmps49
  go_wp2_with (first|((with_reducible refine gate_dst (N:=2) rfl ?_);refine box_event ?hg (N:=2) ?hd (cs:=#[.slice A0_0 l0_0.length c0_0,.slice A0_1 l0_1.length c0_1]) (t:=79) ?hr ?_;(case hd=>rfl);(case hg=>rfl);(case hr=>first|(go_simp;done)|(go_simp;rfl));intro gb110 hg w5 hbox hb;have n0_:=Aside0.mk (below_step qz1 hb);have n1_:=Aside0.mk (hbox);have n2_:=Aside0.mk ((by rw [hg];exact (below_size qz1):w.heap.size≤gb110));have n3_:=Aside0.mk ((by rw [hg];exact (below_size qz1):w.heap.size≤gb110));clear HB;have HB:=n0_;have BK110:=n1_;have GW110:=n2_;have GE110:=n3_;clear n0_ n1_ n2_ n3_ hb hbox hg;have hcz6_0:w5.cell? ⟨gb110,0,none⟩=some (.slice A0_0 l0_0.length c0_0):=(blk_cell BK110.out 0).trans rfl;have hcz6_1:w5.cell? ⟨gb110,1,none⟩=some (.slice A0_1 l0_1.length c0_1):=(blk_cell BK110.out 1).trans rfl;have hfz6_0:=blk_frozen BK110.out 0;have hfz6_1:=blk_frozen BK110.out 1)|((with_reducible refine gate_callee (f:=7) rfl ?_);refine goesL_ (some 8) rfl rfl Tryd.func7 (by kernel_rfl) rfl #[.slice A0_0 l0_0.length c0_0,.int .i64 a1] rfl qz2 ?_;(with_reducible refine (laws_szTrmCellS.calls k _ _ l0_0 a1 t111 _ ?side1 ?side2 A3.out).mono ?_);(case side1=>exact qz8);(case side2=>exact HC0_0.out);rintro e w7 ⟨rfl,hb⟩;refine ⟨_,rfl,?_⟩;have n0_:=Aside0.mk (blk_below (g:=gb110) (o:=.cells #[.slice A0_0 l0_0.length c0_0,.slice A0_1 l0_1.length c0_1] 79 (0,0)) qz108 hb);have n1_:=Aside0.mk (below_step qz66 hb);clear BK110 HB;have BK110:=n0_;have HB:=n1_;clear n0_ n1_;(try clear hb);(try clear hb2);(try clear hk);(try clear hi)))
  go_ret
  exact ⟨qz3,qz66⟩
 ·rw [if_neg c4] at H
  have c4b0:decide (t111<0)=false:=decide_eq_false c4
  clear c4
  replace H:=Option.bind_eq_some_iff.mp H
  obtain ⟨t112,A80,H⟩:=H
  try dsimp only at H
  have A8:=Aside0.mk A80
  clear A80
  by_cases c9:t112<0
  ·rw [if_pos c9] at H
   have c9b0:decide (t112<0)=true:=decide_eq_true c9
   clear c9
   obtain rfl:=Option.some.inj H
   go_enter Tryd.func49,Tryd.ntmps49
   go_wp2_with (first|((with_reducible refine gate_dst (N:=2) rfl ?_);refine box_event ?hg (N:=2) ?hd (cs:=#[.slice A0_0 l0_0.length c0_0,.slice A0_1 l0_1.length c0_1]) (t:=79) ?hr ?_;(case hd=>rfl);(case hg=>rfl);(case hr=>first|(go_simp;done)|(go_simp;rfl));intro gb110 hg w10 hbox hb;have n0_:=Aside0.mk (below_step qz1 hb);have n1_:=Aside0.mk (hbox);have n2_:=Aside0.mk ((by rw [hg];exact (below_size qz1):w.heap.size≤gb110));have n3_:=Aside0.mk ((by rw [hg];exact (below_size qz1):w.heap.size≤gb110));clear HB;have HB:=n0_;have BK110:=n1_;have GW110:=n2_;have GE110:=n3_;clear n0_ n1_ n2_ n3_ hb hbox hg;have hcz11_0:w10.cell? ⟨gb110,0,none⟩=some (.slice A0_0 l0_0.length c0_0):=(blk_cell BK110.out 0).trans rfl;have hcz11_1:w10.cell? ⟨gb110,1,none⟩=some (.slice A0_1 l0_1.length c0_1):=(blk_cell BK110.out 1).trans rfl;have hfz11_0:=blk_frozen BK110.out 0;have hfz11_1:=blk_frozen BK110.out 1)|((with_reducible refine gate_callee (f:=7) rfl ?_);refine goesL_ (some 8) rfl rfl Tryd.func7 (by kernel_rfl) rfl #[.slice A0_0 l0_0.length c0_0,.int .i64 a1] rfl qz2 ?_;(with_reducible refine (laws_szTrmCellS.calls k _ _ l0_0 a1 t111 _ ?side1 ?side2 A3.out).mono ?_);(case side1=>exact qz8);(case side2=>exact HC0_0.out);rintro e w12 ⟨rfl,hb⟩;refine ⟨_,rfl,?_⟩;have n0_:=Aside0.mk (blk_below (g:=gb110) (o:=.cells #[.slice A0_0 l0_0.length c0_0,.slice A0_1 l0_1.length c0_1] 79 (0,0)) qz108 hb);have n1_:=Aside0.mk (below_step qz66 hb);clear BK110 HB;have BK110:=n0_;have HB:=n1_;clear n0_ n1_;(try clear hb);(try clear hb2);(try clear hk);(try clear hi);have hcz13_0:w12.cell? ⟨gb110,0,none⟩=some (.slice A0_0 l0_0.length c0_0):=(blk_cell BK110.out 0).trans rfl;have hcz13_1:w12.cell? ⟨gb110,1,none⟩=some (.slice A0_1 l0_1.length c0_1):=(blk_cell BK110.out 1).trans rfl;have hfz13_0:=blk_frozen BK110.out 0;have hfz13_1:=blk_frozen BK110.out 1)|((with_reducible refine gate_callee (f:=74) rfl ?_);refine goesL_ (some 14) rfl rfl Tryd.func74 (by kernel_rfl) rfl #[.slice A0_1 l0_1.length c0_1,.int .i64 t111] rfl qz2 ?_;(with_reducible refine (laws_szPrgGoalS.calls k _ _ l0_1 t111 t112 _ ?side1 ?side2 A8.out).mono ?_);(case side1=>exact qz5);(case side2=>exact HC0_1.out);rintro e w14 ⟨rfl,hb⟩;refine ⟨_,rfl,?_⟩;have n0_:=Aside0.mk (blk_below (g:=gb110) (o:=.cells #[.slice A0_0 l0_0.length c0_0,.slice A0_1 l0_1.length c0_1] 79 (0,0)) qz108 hb);have n1_:=Aside0.mk (below_step qz66 hb);clear BK110 HB;have BK110:=n0_;have HB:=n1_;clear n0_ n1_;(try clear hb);(try clear hb2);(try clear hk);(try clear hi)))
   go_ret
   exact ⟨qz3,qz66⟩
  ·rw [if_neg c9] at H
   have c9b0:decide (t112<0)=false:=decide_eq_false c9
   clear c9
   obtain rfl:=Option.some.inj H
   go_enter Tryd.func49,Tryd.ntmps49
   go_wp2_with (first|((with_reducible refine gate_dst (N:=2) rfl ?_);refine box_event ?hg (N:=2) ?hd (cs:=#[.slice A0_0 l0_0.length c0_0,.slice A0_1 l0_1.length c0_1]) (t:=79) ?hr ?_;(case hd=>rfl);(case hg=>rfl);(case hr=>first|(go_simp;done)|(go_simp;rfl));intro gb110 hg w15 hbox hb;have n0_:=Aside0.mk (below_step qz1 hb);have n1_:=Aside0.mk (hbox);have n2_:=Aside0.mk ((by rw [hg];exact (below_size qz1):w.heap.size≤gb110));have n3_:=Aside0.mk ((by rw [hg];exact (below_size qz1):w.heap.size≤gb110));clear HB;have HB:=n0_;have BK110:=n1_;have GW110:=n2_;have GE110:=n3_;clear n0_ n1_ n2_ n3_ hb hbox hg;have hcz16_0:w15.cell? ⟨gb110,0,none⟩=some (.slice A0_0 l0_0.length c0_0):=(blk_cell BK110.out 0).trans rfl;have hcz16_1:w15.cell? ⟨gb110,1,none⟩=some (.slice A0_1 l0_1.length c0_1):=(blk_cell BK110.out 1).trans rfl;have hfz16_0:=blk_frozen BK110.out 0;have hfz16_1:=blk_frozen BK110.out 1)|((with_reducible refine gate_callee (f:=7) rfl ?_);refine goesL_ (some 8) rfl rfl Tryd.func7 (by kernel_rfl) rfl #[.slice A0_0 l0_0.length c0_0,.int .i64 a1] rfl qz2 ?_;(with_reducible refine (laws_szTrmCellS.calls k _ _ l0_0 a1 t111 _ ?side1 ?side2 A3.out).mono ?_);(case side1=>exact qz8);(case side2=>exact HC0_0.out);rintro e w17 ⟨rfl,hb⟩;refine ⟨_,rfl,?_⟩;have n0_:=Aside0.mk (blk_below (g:=gb110) (o:=.cells #[.slice A0_0 l0_0.length c0_0,.slice A0_1 l0_1.length c0_1] 79 (0,0)) qz108 hb);have n1_:=Aside0.mk (below_step qz66 hb);clear BK110 HB;have BK110:=n0_;have HB:=n1_;clear n0_ n1_;(try clear hb);(try clear hb2);(try clear hk);(try clear hi);have hcz18_0:w17.cell? ⟨gb110,0,none⟩=some (.slice A0_0 l0_0.length c0_0):=(blk_cell BK110.out 0).trans rfl;have hcz18_1:w17.cell? ⟨gb110,1,none⟩=some (.slice A0_1 l0_1.length c0_1):=(blk_cell BK110.out 1).trans rfl;have hfz18_0:=blk_frozen BK110.out 0;have hfz18_1:=blk_frozen BK110.out 1)|((with_reducible refine gate_callee (f:=74) rfl ?_);refine goesL_ (some 14) rfl rfl Tryd.func74 (by kernel_rfl) rfl #[.slice A0_1 l0_1.length c0_1,.int .i64 t111] rfl qz2 ?_;(with_reducible refine (laws_szPrgGoalS.calls k _ _ l0_1 t111 t112 _ ?side1 ?side2 A8.out).mono ?_);(case side1=>exact qz5);(case side2=>exact HC0_1.out);rintro e w19 ⟨rfl,hb⟩;refine ⟨_,rfl,?_⟩;have n0_:=Aside0.mk (blk_below (g:=gb110) (o:=.cells #[.slice A0_0 l0_0.length c0_0,.slice A0_1 l0_1.length c0_1] 79 (0,0)) qz108 hb);have n1_:=Aside0.mk (below_step qz66 hb);clear BK110 HB;have BK110:=n0_;have HB:=n1_;clear n0_ n1_;(try clear hb);(try clear hb2);(try clear hk);(try clear hi)))
   go_ret
   exact ⟨qz3,qz66⟩

/-! ### laws_szPrgClauseS: function 26 -/
def laws_szPrgClauseS.l0:Nat→List (S79)→Int→Int→Option (Int)
 | 0,_,_,_=>none
 | k+1,x0,x1,x5=>if x5<(x0.length:Int) then (if 0≤x5 then ((laws_szPrgClause.f k ((rd_T79 x0 x5).f0) ((rd_T79 x0 x5).f1) x1).bind fun t114=>(if t114<0 then (some (-1)) else (laws_szPrgClauseS.l0 k x0 t114 (wrap64 (x5+1))))) else (none)) else (some x1)
def laws_szPrgClauseS.f (k:Nat) (l0:List (S79)) (a1:Int):Option (Int):=if (wrap64 (a1 - (l0.length:Int)))<0 then (some (-1)) else (laws_szPrgClauseS.l0 k l0 (wrap64 (a1 - (l0.length:Int))) 0)
set_option maxHeartbeats 8000000 in
set_option maxRecDepth 100000 in
theorem laws_szPrgClauseS.calls (k:Nat) (A0:Option Addr) (c0:Nat) (l0:List (S79)) (a1:Int) (r:Int) (w:World) (hr0:Kd.C k79 w A0 l0.length l0) (hc0:l0.length≤c0) (h:laws_szPrgClauseS.f k l0 a1=some r) :
  Calls Tryd.prog 26 #[.slice A0 l0.length c0,.int .i64 a1] w fun e w'=>e = .returned (.int .i64 r)∧Below w.heap.size w w':=by
 have hu79:=Tryd.underlying79
 have HR0:=Aside0.mk hr0
 have HC0:=Aside0.mk hc0
 clear hr0 hc0
 have HB:=Aside0.mk (Below.refl w.heap.size w)
 have H:(if (wrap64 (a1 - (l0.length:Int)))<0 then (some (-1)) else (laws_szPrgClauseS.l0 k l0 (wrap64 (a1 - (l0.length:Int))) 0))=some r:=h
 clear h
 by_cases c3:(wrap64 (a1 - (l0.length:Int)))<0
 ·rw [if_pos c3] at H
  have c3b0:decide ((wrap64 (a1 - (l0.length:Int)))<0)=true:=decide_eq_true c3
  clear c3
  obtain rfl:=Option.some.inj H
  go_enter Tryd.func26,Tryd.ntmps26
  go_wp2
  go_ret
  exact ⟨qz3,qz4⟩
 ·rw [if_neg c3] at H
  have c3b0:decide ((wrap64 (a1 - (l0.length:Int)))<0)=false:=decide_eq_false c3
  clear c3
  have H':=Aside0.mk H
  clear H
  go_enter Tryd.func26,Tryd.ntmps26
  go_wp2
  go_loopg [1,5] k (fun kq v1 v5 w'=>∃ (x1_1:Int) (x5_1:Int),v1 = .int .i64 x1_1∧v5 = .int .i64 x5_1∧Aside0 (laws_szPrgClauseS.l0 kq l0 x1_1 x5_1=some r)∧Aside0 (kq≤k)∧Aside0 (Below w.heap.size w w'))
  case atStart=>exact ⟨(wrap64 (a1 - (l0.length:Int))),(0),qz12,qz12,H',⟨Nat.le_refl _⟩,⟨qz4⟩⟩
  case round=>
   clear H'
   try clear c2
   try clear p2
   try clear c3
   try clear c3b0
   obtain ⟨x1_1,x5_1,rfl,rfl,HA,HK1,HB⟩:=hrel
   cases gk with
   | zero=>exact absurd HA.out (by simp [laws_szPrgClauseS.l0])
   | succ k1=>
    have H:=HA.out
    clear HA
    simp only [laws_szPrgClauseS.l0] at H
    by_cases c4:x5_1<(l0.length:Int)
    ·rw [if_pos c4] at H
     have c4b0:decide (x5_1<(l0.length:Int))=true:=decide_eq_true c4
     clear c4
     by_cases c5:0≤x5_1
     ·rw [if_pos c5] at H
      have c5b0:decide (0≤x5_1)=true:=decide_eq_true c5
      clear c5
      replace H:=Option.bind_eq_some_iff.mp H
      obtain ⟨t114,A60,H⟩:=H
      try dsimp only at H
      have A6:=Aside0.mk A60
      clear A60
      by_cases c7:t114<0
      ·rw [if_pos c7] at H
       have c7b0:decide (t114<0)=true:=decide_eq_true c7
       clear c7
       obtain rfl:=Option.some.inj H
       have p113:0≤(x5_1:Int):=of_decide_eq_true qz7
       have q113:x5_1<(l0.length:Int):=of_decide_eq_true qz7
       obtain ⟨ad113,A113_0,c113_0,A113_1,c113_1,e113,hx113_0,hx113_1,hl113_0,hi113_0,hl113_1,hi113_1⟩:=at_T79 HR0.out x5_1 p113 q113
       cases e113
       replace hx113_0:=(HB.out.cell (World.block_lt_of_cell? w _ hx113_0)).trans hx113_0
       replace hx113_1:=(HB.out.cell (World.block_lt_of_cell? w _ hx113_1)).trans hx113_1
       have HR113_0:=Aside0.mk hi113_0
       have HC113_0:=Aside0.mk hl113_0
       clear hi113_0 hl113_0
       have HR113_1:=Aside0.mk hi113_1
       have HC113_1:=Aside0.mk hl113_1
       clear hi113_1 hl113_1
       replace p113:=eq_true p113
       replace q113:=eq_true q113
       go_wp2_with (first|((with_reducible refine gate_callee (f:=49) rfl ?_);refine goesL_ (some 23) rfl rfl Tryd.func49 (by kernel_rfl) rfl #[.agg #[.slice A113_0 ((rd_T79 l0 x5_1).f0).length c113_0,.slice A113_1 ((rd_T79 l0 x5_1).f1).length c113_1],.int .i64 x1_1] rfl qz2 ?_;(with_reducible refine (laws_szPrgClause.calls k1 _ _ ((rd_T79 l0 x5_1).f0) _ _ ((rd_T79 l0 x5_1).f1) x1_1 t114 _ ?side1 ?side2 ?side3 ?side4 A6.out).mono ?_);(case side1=>exact qz166);(case side2=>exact HC113_0.out);(case side3=>exact qz165);(case side4=>exact HC113_1.out);rintro e w8 ⟨rfl,hb⟩;refine ⟨_,rfl,?_⟩;have n0_:=Aside0.mk (below_step qz1 hb);clear HB;have HB:=n0_;clear n0_;(try clear hb);(try clear hb2);(try clear hk);(try clear hi)))
       go_ret
       exact ⟨qz3,qz4⟩
      ·rw [if_neg c7] at H
       have c7b0:decide (t114<0)=false:=decide_eq_false c7
       clear c7
       have H':=Aside0.mk H
       clear H
       have p113:0≤(x5_1:Int):=of_decide_eq_true qz7
       have q113:x5_1<(l0.length:Int):=of_decide_eq_true qz7
       obtain ⟨ad113,A113_0,c113_0,A113_1,c113_1,e113,hx113_0,hx113_1,hl113_0,hi113_0,hl113_1,hi113_1⟩:=at_T79 HR0.out x5_1 p113 q113
       cases e113
       replace hx113_0:=(HB.out.cell (World.block_lt_of_cell? w _ hx113_0)).trans hx113_0
       replace hx113_1:=(HB.out.cell (World.block_lt_of_cell? w _ hx113_1)).trans hx113_1
       have HR113_0:=Aside0.mk hi113_0
       have HC113_0:=Aside0.mk hl113_0
       clear hi113_0 hl113_0
       have HR113_1:=Aside0.mk hi113_1
       have HC113_1:=Aside0.mk hl113_1
       clear hi113_1 hl113_1
       replace p113:=eq_true p113
       replace q113:=eq_true q113
       go_wp2_with (first|((with_reducible refine gate_callee (f:=49) rfl ?_);refine goesL_ (some 23) rfl rfl Tryd.func49 (by kernel_rfl) rfl #[.agg #[.slice A113_0 ((rd_T79 l0 x5_1).f0).length c113_0,.slice A113_1 ((rd_T79 l0 x5_1).f1).length c113_1],.int .i64 x1_1] rfl qz2 ?_;(with_reducible refine (laws_szPrgClause.calls k1 _ _ ((rd_T79 l0 x5_1).f0) _ _ ((rd_T79 l0 x5_1).f1) x1_1 t114 _ ?side1 ?side2 ?side3 ?side4 A6.out).mono ?_);(case side1=>exact qz166);(case side2=>exact HC113_0.out);(case side3=>exact qz165);(case side4=>exact HC113_1.out);rintro e w9 ⟨rfl,hb⟩;refine ⟨_,rfl,?_⟩;have n0_:=Aside0.mk (below_step qz1 hb);clear HB;have HB:=n0_;clear n0_;(try clear hb);(try clear hb2);(try clear hk);(try clear hi)))
       go_roundg k1
       case measure=>have:=HK1.out;omega
       case rel=>exact ⟨(t114),(wrap64 (x5_1+1)),qz12,qz12,H',⟨by have:=HK1.out;omega⟩,⟨qz4⟩⟩
     ·rw [if_neg c5] at H
      exact absurd H (by simp)
    ·rw [if_neg c4] at H
     have c4b0:decide (x5_1<(l0.length:Int))=false:=decide_eq_false c4
     clear c4
     obtain rfl:=Option.some.inj H
     go_wp2
     go_ret
     exact ⟨qz3,qz4⟩

/-! ### laws_szPrgPlace: function 50 -/
def laws_szPrgPlace.f (a0_0:ByteArray) (a0_1:Int) (a0_2:Int) (a1:Int):Option (Int):=if (wrap64 (a1 - (a0_0.size:Int)))<0 then (some (-1)) else (some (wrap64 (a1 - (a0_0.size:Int))))
set_option maxHeartbeats 8000000 in
set_option maxRecDepth 100000 in
theorem laws_szPrgPlace.calls (a0_0:ByteArray) (a0_1:Int) (a0_2:Int) (a1:Int) (r:Int) (w:World) (h:laws_szPrgPlace.f a0_0 a0_1 a0_2 a1=some r) :
  Calls Tryd.prog 50 #[.agg #[.string a0_0,.int .i64 a0_1,.int .i64 a0_2],.int .i64 a1] w fun e w'=>e = .returned (.int .i64 r)∧Below w.heap.size w w':=by
 have hu82:=Tryd.underlying82
 have HB:=Aside0.mk (Below.refl w.heap.size w)
 have H:(if (wrap64 (a1 - (a0_0.size:Int)))<0 then (some (-1)) else (some (wrap64 (a1 - (a0_0.size:Int)))))=some r:=h
 clear h
 by_cases c3:(wrap64 (a1 - (a0_0.size:Int)))<0
 ·rw [if_pos c3] at H
  have c3b0:decide ((wrap64 (a1 - (a0_0.size:Int)))<0)=true:=decide_eq_true c3
  clear c3
  obtain rfl:=Option.some.inj H
  go_enter Tryd.func50,Tryd.ntmps50
  go_wp2_with (first|((with_reducible refine gate_dst (N:=2) rfl ?_);refine box_event ?hg (N:=2) ?hd (cs:=#[.string a0_0,.int .i64 a0_1,.int .i64 a0_2]) (t:=82) ?hr ?_;(case hd=>rfl);(case hg=>rfl);(case hr=>first|(go_simp;done)|(go_simp;rfl));intro gb115 hg w4 hbox hb;have n0_:=Aside0.mk (below_step qz1 hb);have n1_:=Aside0.mk (hbox);have n2_:=Aside0.mk ((by rw [hg];exact (below_size qz1):w.heap.size≤gb115));have n3_:=Aside0.mk ((by rw [hg];exact (below_size qz1):w.heap.size≤gb115));clear HB;have HB:=n0_;have BK115:=n1_;have GW115:=n2_;have GE115:=n3_;clear n0_ n1_ n2_ n3_ hb hbox hg;have hcz5_0:w4.cell? ⟨gb115,0,none⟩=some (.string a0_0):=(blk_cell BK115.out 0).trans rfl;have hcz5_1:w4.cell? ⟨gb115,1,none⟩=some (.int .i64 a0_1):=(blk_cell BK115.out 1).trans rfl;have hcz5_2:w4.cell? ⟨gb115,2,none⟩=some (.int .i64 a0_2):=(blk_cell BK115.out 2).trans rfl;have hfz5_0:=blk_frozen BK115.out 0;have hfz5_1:=blk_frozen BK115.out 1;have hfz5_2:=blk_frozen BK115.out 2))
  go_ret
  exact ⟨qz3,qz175⟩
 ·rw [if_neg c3] at H
  have c3b0:decide ((wrap64 (a1 - (a0_0.size:Int)))<0)=false:=decide_eq_false c3
  clear c3
  obtain rfl:=Option.some.inj H
  go_enter Tryd.func50,Tryd.ntmps50
  go_wp2_with (first|((with_reducible refine gate_dst (N:=2) rfl ?_);refine box_event ?hg (N:=2) ?hd (cs:=#[.string a0_0,.int .i64 a0_1,.int .i64 a0_2]) (t:=82) ?hr ?_;(case hd=>rfl);(case hg=>rfl);(case hr=>first|(go_simp;done)|(go_simp;rfl));intro gb115 hg w6 hbox hb;have n0_:=Aside0.mk (below_step qz1 hb);have n1_:=Aside0.mk (hbox);have n2_:=Aside0.mk ((by rw [hg];exact (below_size qz1):w.heap.size≤gb115));have n3_:=Aside0.mk ((by rw [hg];exact (below_size qz1):w.heap.size≤gb115));clear HB;have HB:=n0_;have BK115:=n1_;have GW115:=n2_;have GE115:=n3_;clear n0_ n1_ n2_ n3_ hb hbox hg;have hcz7_0:w6.cell? ⟨gb115,0,none⟩=some (.string a0_0):=(blk_cell BK115.out 0).trans rfl;have hcz7_1:w6.cell? ⟨gb115,1,none⟩=some (.int .i64 a0_1):=(blk_cell BK115.out 1).trans rfl;have hcz7_2:w6.cell? ⟨gb115,2,none⟩=some (.int .i64 a0_2):=(blk_cell BK115.out 2).trans rfl;have hfz7_0:=blk_frozen BK115.out 0;have hfz7_1:=blk_frozen BK115.out 1;have hfz7_2:=blk_frozen BK115.out 2))
  go_ret
  exact ⟨qz3,qz175⟩

/-! ### laws_szPrgPlaceS: function 27 -/
def laws_szPrgPlaceS.l0:Nat→List (S82)→Int→Int→Option (Int)
 | 0,_,_,_=>none
 | k+1,x0,x1,x5=>if x5<(x0.length:Int) then (if 0≤x5 then ((laws_szPrgPlace.f ((rd_T82 x0 x5).f0) ((rd_T82 x0 x5).f1) ((rd_T82 x0 x5).f2) x1).bind fun t117=>(if t117<0 then (some (-1)) else (laws_szPrgPlaceS.l0 k x0 t117 (wrap64 (x5+1))))) else (none)) else (some x1)
def laws_szPrgPlaceS.f (k:Nat) (l0:List (S82)) (a1:Int):Option (Int):=if (wrap64 (a1 - (l0.length:Int)))<0 then (some (-1)) else (laws_szPrgPlaceS.l0 k l0 (wrap64 (a1 - (l0.length:Int))) 0)
set_option maxHeartbeats 8000000 in
set_option maxRecDepth 100000 in
theorem laws_szPrgPlaceS.calls (k:Nat) (A0:Option Addr) (c0:Nat) (l0:List (S82)) (a1:Int) (r:Int) (w:World) (hr0:Kd.C k82 w A0 l0.length l0) (hc0:l0.length≤c0) (h:laws_szPrgPlaceS.f k l0 a1=some r) :
  Calls Tryd.prog 27 #[.slice A0 l0.length c0,.int .i64 a1] w fun e w'=>e = .returned (.int .i64 r)∧Below w.heap.size w w':=by
 have hu82:=Tryd.underlying82
 have HR0:=Aside0.mk hr0
 have HC0:=Aside0.mk hc0
 clear hr0 hc0
 have HB:=Aside0.mk (Below.refl w.heap.size w)
 have H:(if (wrap64 (a1 - (l0.length:Int)))<0 then (some (-1)) else (laws_szPrgPlaceS.l0 k l0 (wrap64 (a1 - (l0.length:Int))) 0))=some r:=h
 clear h
 by_cases c3:(wrap64 (a1 - (l0.length:Int)))<0
 ·rw [if_pos c3] at H
  have c3b0:decide ((wrap64 (a1 - (l0.length:Int)))<0)=true:=decide_eq_true c3
  clear c3
  obtain rfl:=Option.some.inj H
  go_enter Tryd.func27,Tryd.ntmps27
  go_wp2
  go_ret
  exact ⟨qz3,qz4⟩
 ·rw [if_neg c3] at H
  have c3b0:decide ((wrap64 (a1 - (l0.length:Int)))<0)=false:=decide_eq_false c3
  clear c3
  have H':=Aside0.mk H
  clear H
  go_enter Tryd.func27,Tryd.ntmps27
  go_wp2
  go_loopg [1,5] k (fun kq v1 v5 w'=>∃ (x1_1:Int) (x5_1:Int),v1 = .int .i64 x1_1∧v5 = .int .i64 x5_1∧Aside0 (laws_szPrgPlaceS.l0 kq l0 x1_1 x5_1=some r)∧Aside0 (kq≤k)∧Aside0 (Below w.heap.size w w'))
  case atStart=>exact ⟨(wrap64 (a1 - (l0.length:Int))),(0),qz12,qz12,H',⟨Nat.le_refl _⟩,⟨qz4⟩⟩
  case round=>
   clear H'
   try clear c2
   try clear p2
   try clear c3
   try clear c3b0
   obtain ⟨x1_1,x5_1,rfl,rfl,HA,HK1,HB⟩:=hrel
   cases gk with
   | zero=>exact absurd HA.out (by simp [laws_szPrgPlaceS.l0])
   | succ k1=>
    have H:=HA.out
    clear HA
    simp only [laws_szPrgPlaceS.l0] at H
    by_cases c4:x5_1<(l0.length:Int)
    ·rw [if_pos c4] at H
     have c4b0:decide (x5_1<(l0.length:Int))=true:=decide_eq_true c4
     clear c4
     by_cases c5:0≤x5_1
     ·rw [if_pos c5] at H
      have c5b0:decide (0≤x5_1)=true:=decide_eq_true c5
      clear c5
      replace H:=Option.bind_eq_some_iff.mp H
      obtain ⟨t117,A60,H⟩:=H
      try dsimp only at H
      have A6:=Aside0.mk A60
      clear A60
      by_cases c7:t117<0
      ·rw [if_pos c7] at H
       have c7b0:decide (t117<0)=true:=decide_eq_true c7
       clear c7
       obtain rfl:=Option.some.inj H
       have p116:0≤(x5_1:Int):=of_decide_eq_true qz7
       have q116:x5_1<(l0.length:Int):=of_decide_eq_true qz7
       obtain ⟨ad116,e116,hx116_0,hx116_1,hx116_2⟩:=at_T82 HR0.out x5_1 p116 q116
       cases e116
       replace hx116_0:=(HB.out.cell (World.block_lt_of_cell? w _ hx116_0)).trans hx116_0
       replace hx116_1:=(HB.out.cell (World.block_lt_of_cell? w _ hx116_1)).trans hx116_1
       replace hx116_2:=(HB.out.cell (World.block_lt_of_cell? w _ hx116_2)).trans hx116_2
       replace p116:=eq_true p116
       replace q116:=eq_true q116
       go_wp2_with (first|((with_reducible refine gate_callee (f:=50) rfl ?_);refine goesL_ (some 23) rfl rfl Tryd.func50 (by kernel_rfl) rfl #[.agg #[.string ((rd_T82 l0 x5_1).f0),.int .i64 ((rd_T82 l0 x5_1).f1),.int .i64 ((rd_T82 l0 x5_1).f2)],.int .i64 x1_1] rfl qz2 ?_;(with_reducible refine (laws_szPrgPlace.calls ((rd_T82 l0 x5_1).f0) ((rd_T82 l0 x5_1).f1) ((rd_T82 l0 x5_1).f2) x1_1 t117 _ A6.out).mono ?_);rintro e w8 ⟨rfl,hb⟩;refine ⟨_,rfl,?_⟩;have n0_:=Aside0.mk (below_step qz1 hb);clear HB;have HB:=n0_;clear n0_;(try clear hb);(try clear hb2);(try clear hk);(try clear hi)))
       go_ret
       exact ⟨qz3,qz4⟩
      ·rw [if_neg c7] at H
       have c7b0:decide (t117<0)=false:=decide_eq_false c7
       clear c7
       have H':=Aside0.mk H
       clear H
       have p116:0≤(x5_1:Int):=of_decide_eq_true qz7
       have q116:x5_1<(l0.length:Int):=of_decide_eq_true qz7
       obtain ⟨ad116,e116,hx116_0,hx116_1,hx116_2⟩:=at_T82 HR0.out x5_1 p116 q116
       cases e116
       replace hx116_0:=(HB.out.cell (World.block_lt_of_cell? w _ hx116_0)).trans hx116_0
       replace hx116_1:=(HB.out.cell (World.block_lt_of_cell? w _ hx116_1)).trans hx116_1
       replace hx116_2:=(HB.out.cell (World.block_lt_of_cell? w _ hx116_2)).trans hx116_2
       replace p116:=eq_true p116
       replace q116:=eq_true q116
       go_wp2_with (first|((with_reducible refine gate_callee (f:=50) rfl ?_);refine goesL_ (some 23) rfl rfl Tryd.func50 (by kernel_rfl) rfl #[.agg #[.string ((rd_T82 l0 x5_1).f0),.int .i64 ((rd_T82 l0 x5_1).f1),.int .i64 ((rd_T82 l0 x5_1).f2)],.int .i64 x1_1] rfl qz2 ?_;(with_reducible refine (laws_szPrgPlace.calls ((rd_T82 l0 x5_1).f0) ((rd_T82 l0 x5_1).f1) ((rd_T82 l0 x5_1).f2) x1_1 t117 _ A6.out).mono ?_);rintro e w9 ⟨rfl,hb⟩;refine ⟨_,rfl,?_⟩;have n0_:=Aside0.mk (below_step qz1 hb);clear HB;have HB:=n0_;clear n0_;(try clear hb);(try clear hb2);(try clear hk);(try clear hi)))
       go_roundg k1
       case measure=>have:=HK1.out;omega
       case rel=>exact ⟨(t117),(wrap64 (x5_1+1)),qz12,qz12,H',⟨by have:=HK1.out;omega⟩,⟨qz4⟩⟩
     ·rw [if_neg c5] at H
      exact absurd H (by simp)
    ·rw [if_neg c4] at H
     have c4b0:decide (x5_1<(l0.length:Int))=false:=decide_eq_false c4
     clear c4
     obtain rfl:=Option.some.inj H
     go_wp2
     go_ret
     exact ⟨qz3,qz4⟩

end Go.Proofs.YtepkgjcobocbpaaDoor.P
