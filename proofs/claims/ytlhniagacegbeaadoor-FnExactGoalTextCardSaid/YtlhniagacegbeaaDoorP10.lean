/- Contracts of functions of the program: each as a Lean function, and that its call does what that says; printed by cprint.py (this session) over print.py of the kit. Conditions: the hypotheses of each theorem. -/
import Derived.Test.YtlhniagacegbeaaDoorVZ
import Derived.Test.YtlhniagacegbeaaDoorP0
namespace Go.Proofs.YtlhniagacegbeaaDoor.P
open Go.RowKit Go.Proofs.YtlhniagacegbeaaDoorW.PrintWords Go.Proofs.YtlhniagacegbeaaDoorW.PrintLast Go.Proofs.YtlhniagacegbeaaDoorW.PrintMore
attribute [local go_sem] max2_int min2_int max_two min_two max_three min_three max_four min_four   -- for this text's walks alone
set_option linter.unusedVariables false
set_option linter.unusedSimpArgs false

/-! ### laws_szTrmCell: function 40 -/
def laws_szTrmCell.f (a0_0:Int) (a0_1:Int) (a0_2:ByteArray) (a1:Int):Option (Int):=if (wrap64 (a1 - (a0_2.size:Int)))<0 then (some (-1)) else (some (wrap64 (a1 - (a0_2.size:Int))))
set_option maxHeartbeats 8000000 in
set_option maxRecDepth 100000 in
theorem laws_szTrmCell.calls (a0_0:Int) (a0_1:Int) (a0_2:ByteArray) (a1:Int) (r:Int) (w:World) (h:laws_szTrmCell.f a0_0 a0_1 a0_2 a1=some r) :
  Calls Tryd.prog 40 #[.agg #[.int .i64 a0_0,.int .i64 a0_1,.string a0_2],.int .i64 a1] w fun e w'=>e = .returned (.int .i64 r)∧Below w.heap.size w w':=by
 have hu74:=Tryd.underlying74
 have HB:=Aside0.mk (Below.refl w.heap.size w)
 have H:(if (wrap64 (a1 - (a0_2.size:Int)))<0 then (some (-1)) else (some (wrap64 (a1 - (a0_2.size:Int)))))=some r:=h
 clear h
 by_cases c3:(wrap64 (a1 - (a0_2.size:Int)))<0
 ·rw [if_pos c3] at H
  have c3b0:decide ((wrap64 (a1 - (a0_2.size:Int)))<0)=true:=decide_eq_true c3
  clear c3
  obtain rfl:=Option.some.inj H
  go_enter Tryd.func40,Tryd.ntmps40
  go_wp2_with (first|((with_reducible refine gate_dst (N:=2) rfl ?_);refine box_event ?hg (N:=2) ?hd (cs:=#[.int .i64 a0_0,.int .i64 a0_1,.string a0_2]) (t:=74) ?hr ?_;(case hd=>rfl);(case hg=>rfl);(case hr=>first|(go_simp;done)|(go_simp;rfl));intro gb101 hg w4 hbox hb;have n0_:=Aside0.mk (below_step qz1 hb);have n1_:=Aside0.mk (hbox);have n2_:=Aside0.mk ((by rw [hg];exact (below_size qz1):w.heap.size≤gb101));have n3_:=Aside0.mk ((by rw [hg];exact (below_size qz1):w.heap.size≤gb101));clear HB;have HB:=n0_;have BK101:=n1_;have GW101:=n2_;have GE101:=n3_;clear n0_ n1_ n2_ n3_ hb hbox hg;have hcz5_0:w4.cell? ⟨gb101,0,none⟩=some (.int .i64 a0_0):=(blk_cell BK101.out 0).trans rfl;have hcz5_1:w4.cell? ⟨gb101,1,none⟩=some (.int .i64 a0_1):=(blk_cell BK101.out 1).trans rfl;have hcz5_2:w4.cell? ⟨gb101,2,none⟩=some (.string a0_2):=(blk_cell BK101.out 2).trans rfl;have hfz5_0:=blk_frozen BK101.out 0;have hfz5_1:=blk_frozen BK101.out 1;have hfz5_2:=blk_frozen BK101.out 2))
  go_ret
  exact ⟨qz4,qz89⟩
 ·rw [if_neg c3] at H
  have c3b0:decide ((wrap64 (a1 - (a0_2.size:Int)))<0)=false:=decide_eq_false c3
  clear c3
  obtain rfl:=Option.some.inj H
  go_enter Tryd.func40,Tryd.ntmps40
  go_wp2_with (first|((with_reducible refine gate_dst (N:=2) rfl ?_);refine box_event ?hg (N:=2) ?hd (cs:=#[.int .i64 a0_0,.int .i64 a0_1,.string a0_2]) (t:=74) ?hr ?_;(case hd=>rfl);(case hg=>rfl);(case hr=>first|(go_simp;done)|(go_simp;rfl));intro gb101 hg w6 hbox hb;have n0_:=Aside0.mk (below_step qz1 hb);have n1_:=Aside0.mk (hbox);have n2_:=Aside0.mk ((by rw [hg];exact (below_size qz1):w.heap.size≤gb101));have n3_:=Aside0.mk ((by rw [hg];exact (below_size qz1):w.heap.size≤gb101));clear HB;have HB:=n0_;have BK101:=n1_;have GW101:=n2_;have GE101:=n3_;clear n0_ n1_ n2_ n3_ hb hbox hg;have hcz7_0:w6.cell? ⟨gb101,0,none⟩=some (.int .i64 a0_0):=(blk_cell BK101.out 0).trans rfl;have hcz7_1:w6.cell? ⟨gb101,1,none⟩=some (.int .i64 a0_1):=(blk_cell BK101.out 1).trans rfl;have hcz7_2:w6.cell? ⟨gb101,2,none⟩=some (.string a0_2):=(blk_cell BK101.out 2).trans rfl;have hfz7_0:=blk_frozen BK101.out 0;have hfz7_1:=blk_frozen BK101.out 1;have hfz7_2:=blk_frozen BK101.out 2))
  go_ret
  exact ⟨qz4,qz89⟩

/-! ### laws_szTrmCellS: function 17 -/
def laws_szTrmCellS.l0:Nat→List (S74)→Int→Int→Option (Int)
 | 0,_,_,_=>none
 | k+1,x0,x1,x5=>if x5<(x0.length:Int) then (if 0≤x5 then ((laws_szTrmCell.f ((rd_T74 x0 x5).f0) ((rd_T74 x0 x5).f1) ((rd_T74 x0 x5).f2) x1).bind fun t103=>(if t103<0 then (some (-1)) else (laws_szTrmCellS.l0 k x0 t103 (wrap64 (x5+1))))) else (none)) else (some x1)
def laws_szTrmCellS.f (k:Nat) (l0:List (S74)) (a1:Int):Option (Int):=if (wrap64 (a1 - (l0.length:Int)))<0 then (some (-1)) else (laws_szTrmCellS.l0 k l0 (wrap64 (a1 - (l0.length:Int))) 0)
set_option maxHeartbeats 8000000 in
set_option maxRecDepth 100000 in
theorem laws_szTrmCellS.calls (k:Nat) (A0:Option Addr) (c0:Nat) (l0:List (S74)) (a1:Int) (r:Int) (w:World) (hr0:Kd.C k74 w A0 l0.length l0) (hc0:l0.length≤c0) (h:laws_szTrmCellS.f k l0 a1=some r) :
  Calls Tryd.prog 17 #[.slice A0 l0.length c0,.int .i64 a1] w fun e w'=>e = .returned (.int .i64 r)∧Below w.heap.size w w':=by
 have hu74:=Tryd.underlying74
 have HR0:=Aside0.mk hr0
 have HC0:=Aside0.mk hc0
 clear hr0 hc0
 have HB:=Aside0.mk (Below.refl w.heap.size w)
 have H:(if (wrap64 (a1 - (l0.length:Int)))<0 then (some (-1)) else (laws_szTrmCellS.l0 k l0 (wrap64 (a1 - (l0.length:Int))) 0))=some r:=h
 clear h
 by_cases c3:(wrap64 (a1 - (l0.length:Int)))<0
 ·rw [if_pos c3] at H
  have c3b0:decide ((wrap64 (a1 - (l0.length:Int)))<0)=true:=decide_eq_true c3
  clear c3
  obtain rfl:=Option.some.inj H
  go_enter Tryd.func17,Tryd.ntmps17
  go_wp2
  go_ret
  exact ⟨qz4,qz6⟩
 ·rw [if_neg c3] at H
  have c3b0:decide ((wrap64 (a1 - (l0.length:Int)))<0)=false:=decide_eq_false c3
  clear c3
  have H':=Aside0.mk H
  clear H
  go_enter Tryd.func17,Tryd.ntmps17
  go_wp2
  go_loopg [1,5] k (fun kq v1 v5 w'=>∃ (x1_1:Int) (x5_1:Int),v1 = .int .i64 x1_1∧v5 = .int .i64 x5_1∧Aside0 (laws_szTrmCellS.l0 kq l0 x1_1 x5_1=some r)∧Aside0 (kq≤k)∧Aside0 (Below w.heap.size w w'))
  case atStart=>exact ⟨(wrap64 (a1 - (l0.length:Int))),(0),qz16,qz16,H',⟨Nat.le_refl _⟩,⟨qz6⟩⟩
  case round=>
   clear H'
   try clear c1
   try clear p2
   try clear c3
   try clear c3b0
   obtain ⟨x1_1,x5_1,rfl,rfl,HA,HK1,HB⟩:=hrel
   cases gk with
   | zero=>exact absurd HA.out (by simp [laws_szTrmCellS.l0])
   | succ k1=>
    have H:=HA.out
    clear HA
    simp only [laws_szTrmCellS.l0] at H
    by_cases c4:x5_1<(l0.length:Int)
    ·rw [if_pos c4] at H
     have c4b0:decide (x5_1<(l0.length:Int))=true:=decide_eq_true c4
     clear c4
     by_cases c5:0≤x5_1
     ·rw [if_pos c5] at H
      have c5b0:decide (0≤x5_1)=true:=decide_eq_true c5
      clear c5
      replace H:=Option.bind_eq_some_iff.mp H
      obtain ⟨t103,A60,H⟩:=H
      try dsimp only at H
      have A6:=Aside0.mk A60
      clear A60
      by_cases c7:t103<0
      ·rw [if_pos c7] at H
       have c7b0:decide (t103<0)=true:=decide_eq_true c7
       clear c7
       obtain rfl:=Option.some.inj H
       have p102:0≤(x5_1:Int):=of_decide_eq_true qz12
       have q102:x5_1<(l0.length:Int):=of_decide_eq_true qz12
       obtain ⟨ad102,e102,hx102_0,hx102_1,hx102_2⟩:=at_T74 HR0.out x5_1 p102 q102
       cases e102
       replace hx102_0:=(HB.out.cell (World.block_lt_of_cell? w _ hx102_0)).trans hx102_0
       replace hx102_1:=(HB.out.cell (World.block_lt_of_cell? w _ hx102_1)).trans hx102_1
       replace hx102_2:=(HB.out.cell (World.block_lt_of_cell? w _ hx102_2)).trans hx102_2
       replace p102:=eq_true p102
       replace q102:=eq_true q102
       go_wp2_with (first|((with_reducible refine gate_callee (f:=40) rfl ?_);refine goesL_ (some 23) rfl rfl Tryd.func40 (by kernel_rfl) rfl #[.agg #[.int .i64 ((rd_T74 l0 x5_1).f0),.int .i64 ((rd_T74 l0 x5_1).f1),.string ((rd_T74 l0 x5_1).f2)],.int .i64 x1_1] rfl qz2 ?_;(with_reducible refine (laws_szTrmCell.calls ((rd_T74 l0 x5_1).f0) ((rd_T74 l0 x5_1).f1) ((rd_T74 l0 x5_1).f2) x1_1 t103 _ A6.out).mono ?_);rintro e w8 ⟨rfl,hb⟩;refine ⟨_,rfl,?_⟩;have n0_:=Aside0.mk (below_step qz1 hb);clear HB;have HB:=n0_;clear n0_;(try clear hb);(try clear hb2);(try clear hk);(try clear hi)))
       go_ret
       exact ⟨qz4,qz6⟩
      ·rw [if_neg c7] at H
       have c7b0:decide (t103<0)=false:=decide_eq_false c7
       clear c7
       have H':=Aside0.mk H
       clear H
       have p102:0≤(x5_1:Int):=of_decide_eq_true qz12
       have q102:x5_1<(l0.length:Int):=of_decide_eq_true qz12
       obtain ⟨ad102,e102,hx102_0,hx102_1,hx102_2⟩:=at_T74 HR0.out x5_1 p102 q102
       cases e102
       replace hx102_0:=(HB.out.cell (World.block_lt_of_cell? w _ hx102_0)).trans hx102_0
       replace hx102_1:=(HB.out.cell (World.block_lt_of_cell? w _ hx102_1)).trans hx102_1
       replace hx102_2:=(HB.out.cell (World.block_lt_of_cell? w _ hx102_2)).trans hx102_2
       replace p102:=eq_true p102
       replace q102:=eq_true q102
       go_wp2_with (first|((with_reducible refine gate_callee (f:=40) rfl ?_);refine goesL_ (some 23) rfl rfl Tryd.func40 (by kernel_rfl) rfl #[.agg #[.int .i64 ((rd_T74 l0 x5_1).f0),.int .i64 ((rd_T74 l0 x5_1).f1),.string ((rd_T74 l0 x5_1).f2)],.int .i64 x1_1] rfl qz2 ?_;(with_reducible refine (laws_szTrmCell.calls ((rd_T74 l0 x5_1).f0) ((rd_T74 l0 x5_1).f1) ((rd_T74 l0 x5_1).f2) x1_1 t103 _ A6.out).mono ?_);rintro e w9 ⟨rfl,hb⟩;refine ⟨_,rfl,?_⟩;have n0_:=Aside0.mk (below_step qz1 hb);clear HB;have HB:=n0_;clear n0_;(try clear hb);(try clear hb2);(try clear hk);(try clear hi)))
       go_roundg k1
       case measure=>have:=HK1.out;omega
       case rel=>exact ⟨(t103),(wrap64 (x5_1+1)),qz16,qz16,H',⟨by have:=HK1.out;omega⟩,⟨qz6⟩⟩
     ·rw [if_neg c5] at H
      exact absurd H (by simp)
    ·rw [if_neg c4] at H
     have c4b0:decide (x5_1<(l0.length:Int))=false:=decide_eq_false c4
     clear c4
     obtain rfl:=Option.some.inj H
     go_wp2
     go_ret
     exact ⟨qz4,qz6⟩

/-! ### laws_szPrgGoal: function 5 -/
def laws_szPrgGoal.f (k:Nat) (a0_0:Int) (l0_1:List (S74)) (l0_2:List (S74)) (l0_3:List (S74)) (a1:Int):Option (Int):=(laws_szTrmCellS.f k l0_1 a1).bind fun t105=>(if t105<0 then (some (-1)) else ((laws_szTrmCellS.f k l0_2 t105).bind fun t106=>(if t106<0 then (some (-1)) else ((laws_szTrmCellS.f k l0_3 t106).bind fun t107=>(if t107<0 then (some (-1)) else (some t107))))))
set_option maxHeartbeats 8000000 in
set_option maxRecDepth 100000 in
theorem laws_szPrgGoal.calls (k:Nat) (a0_0:Int) (A0_1:Option Addr) (c0_1:Nat) (l0_1:List (S74)) (A0_2:Option Addr) (c0_2:Nat) (l0_2:List (S74)) (A0_3:Option Addr) (c0_3:Nat) (l0_3:List (S74)) (a1:Int) (r:Int) (w:World) (hr0_1:Kd.C k74 w A0_1 l0_1.length l0_1) (hc0_1:l0_1.length≤c0_1) (hr0_2:Kd.C k74 w A0_2 l0_2.length l0_2) (hc0_2:l0_2.length≤c0_2) (hr0_3:Kd.C k74 w A0_3 l0_3.length l0_3) (hc0_3:l0_3.length≤c0_3) (h:laws_szPrgGoal.f k a0_0 l0_1 l0_2 l0_3 a1=some r) :
  Calls Tryd.prog 5 #[.agg #[.int .i64 a0_0,.slice A0_1 l0_1.length c0_1,.slice A0_2 l0_2.length c0_2,.slice A0_3 l0_3.length c0_3],.int .i64 a1] w fun e w'=>e = .returned (.int .i64 r)∧Below w.heap.size w w':=by
 have hu24:=Tryd.underlying24
 have HR0_1:=Aside0.mk hr0_1
 have HC0_1:=Aside0.mk hc0_1
 clear hr0_1 hc0_1
 have HR0_2:=Aside0.mk hr0_2
 have HC0_2:=Aside0.mk hc0_2
 clear hr0_2 hc0_2
 have HR0_3:=Aside0.mk hr0_3
 have HC0_3:=Aside0.mk hc0_3
 clear hr0_3 hc0_3
 have HB:=Aside0.mk (Below.refl w.heap.size w)
 have H:((laws_szTrmCellS.f k l0_1 a1).bind fun t105=>(if t105<0 then (some (-1)) else ((laws_szTrmCellS.f k l0_2 t105).bind fun t106=>(if t106<0 then (some (-1)) else ((laws_szTrmCellS.f k l0_3 t106).bind fun t107=>(if t107<0 then (some (-1)) else (some t107)))))))=some r:=h
 clear h
 replace H:=Option.bind_eq_some_iff.mp H
 obtain ⟨t105,A30,H⟩:=H
 try dsimp only at H
 have A3:=Aside0.mk A30
 clear A30
 by_cases c4:t105<0
 ·rw [if_pos c4] at H
  have c4b0:decide (t105<0)=true:=decide_eq_true c4
  clear c4
  obtain rfl:=Option.some.inj H
  go_enter Tryd.func5,Tryd.ntmps5
  go_wp2_with (first|((with_reducible refine gate_dst (N:=2) rfl ?_);refine box_event ?hg (N:=2) ?hd (cs:=#[.int .i64 a0_0,.slice A0_1 l0_1.length c0_1,.slice A0_2 l0_2.length c0_2,.slice A0_3 l0_3.length c0_3]) (t:=24) ?hr ?_;(case hd=>rfl);(case hg=>rfl);(case hr=>first|(go_simp;done)|(go_simp;rfl));intro gb104 hg w5 hbox hb;have n0_:=Aside0.mk (below_step qz1 hb);have n1_:=Aside0.mk (hbox);have n2_:=Aside0.mk ((by rw [hg];exact (below_size qz1):w.heap.size≤gb104));have n3_:=Aside0.mk ((by rw [hg];exact (below_size qz1):w.heap.size≤gb104));clear HB;have HB:=n0_;have BK104:=n1_;have GW104:=n2_;have GE104:=n3_;clear n0_ n1_ n2_ n3_ hb hbox hg;have hcz6_0:w5.cell? ⟨gb104,0,none⟩=some (.int .i64 a0_0):=(blk_cell BK104.out 0).trans rfl;have hcz6_1:w5.cell? ⟨gb104,1,none⟩=some (.slice A0_1 l0_1.length c0_1):=(blk_cell BK104.out 1).trans rfl;have hcz6_2:w5.cell? ⟨gb104,2,none⟩=some (.slice A0_2 l0_2.length c0_2):=(blk_cell BK104.out 2).trans rfl;have hcz6_3:w5.cell? ⟨gb104,3,none⟩=some (.slice A0_3 l0_3.length c0_3):=(blk_cell BK104.out 3).trans rfl;have hfz6_0:=blk_frozen BK104.out 0;have hfz6_1:=blk_frozen BK104.out 1;have hfz6_2:=blk_frozen BK104.out 2;have hfz6_3:=blk_frozen BK104.out 3)|((with_reducible refine gate_callee (f:=17) rfl ?_);refine goesL_ (some 8) rfl rfl Tryd.func17 (by kernel_rfl) rfl #[.slice A0_1 l0_1.length c0_1,.int .i64 a1] rfl qz2 ?_;(with_reducible refine (laws_szTrmCellS.calls k _ _ l0_1 a1 t105 _ ?side1 ?side2 A3.out).mono ?_);(case side1=>exact qz3);(case side2=>exact HC0_1.out);rintro e w7 ⟨rfl,hb⟩;refine ⟨_,rfl,?_⟩;have n0_:=Aside0.mk (blk_below (g:=gb104) (o:=.cells #[.int .i64 a0_0,.slice A0_1 l0_1.length c0_1,.slice A0_2 l0_2.length c0_2,.slice A0_3 l0_3.length c0_3] 24 (0,0)) qz41 hb);have n1_:=Aside0.mk (below_step qz25 hb);clear BK104 HB;have BK104:=n0_;have HB:=n1_;clear n0_ n1_;(try clear hb);(try clear hb2);(try clear hk);(try clear hi)))
  go_ret
  exact ⟨qz4,qz25⟩
 ·rw [if_neg c4] at H
  have c4b0:decide (t105<0)=false:=decide_eq_false c4
  clear c4
  replace H:=Option.bind_eq_some_iff.mp H
  obtain ⟨t106,A80,H⟩:=H
  try dsimp only at H
  have A8:=Aside0.mk A80
  clear A80
  by_cases c9:t106<0
  ·rw [if_pos c9] at H
   have c9b0:decide (t106<0)=true:=decide_eq_true c9
   clear c9
   obtain rfl:=Option.some.inj H
   go_enter Tryd.func5,Tryd.ntmps5
   go_wp2_with (first|((with_reducible refine gate_dst (N:=2) rfl ?_);refine box_event ?hg (N:=2) ?hd (cs:=#[.int .i64 a0_0,.slice A0_1 l0_1.length c0_1,.slice A0_2 l0_2.length c0_2,.slice A0_3 l0_3.length c0_3]) (t:=24) ?hr ?_;(case hd=>rfl);(case hg=>rfl);(case hr=>first|(go_simp;done)|(go_simp;rfl));intro gb104 hg w10 hbox hb;have n0_:=Aside0.mk (below_step qz1 hb);have n1_:=Aside0.mk (hbox);have n2_:=Aside0.mk ((by rw [hg];exact (below_size qz1):w.heap.size≤gb104));have n3_:=Aside0.mk ((by rw [hg];exact (below_size qz1):w.heap.size≤gb104));clear HB;have HB:=n0_;have BK104:=n1_;have GW104:=n2_;have GE104:=n3_;clear n0_ n1_ n2_ n3_ hb hbox hg;have hcz11_0:w10.cell? ⟨gb104,0,none⟩=some (.int .i64 a0_0):=(blk_cell BK104.out 0).trans rfl;have hcz11_1:w10.cell? ⟨gb104,1,none⟩=some (.slice A0_1 l0_1.length c0_1):=(blk_cell BK104.out 1).trans rfl;have hcz11_2:w10.cell? ⟨gb104,2,none⟩=some (.slice A0_2 l0_2.length c0_2):=(blk_cell BK104.out 2).trans rfl;have hcz11_3:w10.cell? ⟨gb104,3,none⟩=some (.slice A0_3 l0_3.length c0_3):=(blk_cell BK104.out 3).trans rfl;have hfz11_0:=blk_frozen BK104.out 0;have hfz11_1:=blk_frozen BK104.out 1;have hfz11_2:=blk_frozen BK104.out 2;have hfz11_3:=blk_frozen BK104.out 3)|((with_reducible refine gate_callee (f:=17) rfl ?_);refine goesL_ (some 8) rfl rfl Tryd.func17 (by kernel_rfl) rfl #[.slice A0_1 l0_1.length c0_1,.int .i64 a1] rfl qz2 ?_;(with_reducible refine (laws_szTrmCellS.calls k _ _ l0_1 a1 t105 _ ?side1 ?side2 A3.out).mono ?_);(case side1=>exact qz3);(case side2=>exact HC0_1.out);rintro e w12 ⟨rfl,hb⟩;refine ⟨_,rfl,?_⟩;have n0_:=Aside0.mk (blk_below (g:=gb104) (o:=.cells #[.int .i64 a0_0,.slice A0_1 l0_1.length c0_1,.slice A0_2 l0_2.length c0_2,.slice A0_3 l0_3.length c0_3] 24 (0,0)) qz41 hb);have n1_:=Aside0.mk (below_step qz25 hb);clear BK104 HB;have BK104:=n0_;have HB:=n1_;clear n0_ n1_;(try clear hb);(try clear hb2);(try clear hk);(try clear hi);have hcz13_0:w12.cell? ⟨gb104,0,none⟩=some (.int .i64 a0_0):=(blk_cell BK104.out 0).trans rfl;have hcz13_1:w12.cell? ⟨gb104,1,none⟩=some (.slice A0_1 l0_1.length c0_1):=(blk_cell BK104.out 1).trans rfl;have hcz13_2:w12.cell? ⟨gb104,2,none⟩=some (.slice A0_2 l0_2.length c0_2):=(blk_cell BK104.out 2).trans rfl;have hcz13_3:w12.cell? ⟨gb104,3,none⟩=some (.slice A0_3 l0_3.length c0_3):=(blk_cell BK104.out 3).trans rfl;have hfz13_0:=blk_frozen BK104.out 0;have hfz13_1:=blk_frozen BK104.out 1;have hfz13_2:=blk_frozen BK104.out 2;have hfz13_3:=blk_frozen BK104.out 3)|((with_reducible refine gate_callee (f:=17) rfl ?_);refine goesL_ (some 14) rfl rfl Tryd.func17 (by kernel_rfl) rfl #[.slice A0_2 l0_2.length c0_2,.int .i64 t105] rfl qz2 ?_;(with_reducible refine (laws_szTrmCellS.calls k _ _ l0_2 t105 t106 _ ?side1 ?side2 A8.out).mono ?_);(case side1=>exact qz5);(case side2=>exact HC0_2.out);rintro e w14 ⟨rfl,hb⟩;refine ⟨_,rfl,?_⟩;have n0_:=Aside0.mk (blk_below (g:=gb104) (o:=.cells #[.int .i64 a0_0,.slice A0_1 l0_1.length c0_1,.slice A0_2 l0_2.length c0_2,.slice A0_3 l0_3.length c0_3] 24 (0,0)) qz41 hb);have n1_:=Aside0.mk (below_step qz25 hb);clear BK104 HB;have BK104:=n0_;have HB:=n1_;clear n0_ n1_;(try clear hb);(try clear hb2);(try clear hk);(try clear hi)))
   go_ret
   exact ⟨qz4,qz25⟩
  ·rw [if_neg c9] at H
   have c9b0:decide (t106<0)=false:=decide_eq_false c9
   clear c9
   replace H:=Option.bind_eq_some_iff.mp H
   obtain ⟨t107,A150,H⟩:=H
   try dsimp only at H
   have A15:=Aside0.mk A150
   clear A150
   by_cases c16:t107<0
   ·rw [if_pos c16] at H
    have c16b0:decide (t107<0)=true:=decide_eq_true c16
    clear c16
    obtain rfl:=Option.some.inj H
    go_enter Tryd.func5,Tryd.ntmps5
    go_wp2_with (first|((with_reducible refine gate_dst (N:=2) rfl ?_);refine box_event ?hg (N:=2) ?hd (cs:=#[.int .i64 a0_0,.slice A0_1 l0_1.length c0_1,.slice A0_2 l0_2.length c0_2,.slice A0_3 l0_3.length c0_3]) (t:=24) ?hr ?_;(case hd=>rfl);(case hg=>rfl);(case hr=>first|(go_simp;done)|(go_simp;rfl));intro gb104 hg w17 hbox hb;have n0_:=Aside0.mk (below_step qz1 hb);have n1_:=Aside0.mk (hbox);have n2_:=Aside0.mk ((by rw [hg];exact (below_size qz1):w.heap.size≤gb104));have n3_:=Aside0.mk ((by rw [hg];exact (below_size qz1):w.heap.size≤gb104));clear HB;have HB:=n0_;have BK104:=n1_;have GW104:=n2_;have GE104:=n3_;clear n0_ n1_ n2_ n3_ hb hbox hg;have hcz18_0:w17.cell? ⟨gb104,0,none⟩=some (.int .i64 a0_0):=(blk_cell BK104.out 0).trans rfl;have hcz18_1:w17.cell? ⟨gb104,1,none⟩=some (.slice A0_1 l0_1.length c0_1):=(blk_cell BK104.out 1).trans rfl;have hcz18_2:w17.cell? ⟨gb104,2,none⟩=some (.slice A0_2 l0_2.length c0_2):=(blk_cell BK104.out 2).trans rfl;have hcz18_3:w17.cell? ⟨gb104,3,none⟩=some (.slice A0_3 l0_3.length c0_3):=(blk_cell BK104.out 3).trans rfl;have hfz18_0:=blk_frozen BK104.out 0;have hfz18_1:=blk_frozen BK104.out 1;have hfz18_2:=blk_frozen BK104.out 2;have hfz18_3:=blk_frozen BK104.out 3)|((with_reducible refine gate_callee (f:=17) rfl ?_);refine goesL_ (some 8) rfl rfl Tryd.func17 (by kernel_rfl) rfl #[.slice A0_1 l0_1.length c0_1,.int .i64 a1] rfl qz2 ?_;(with_reducible refine (laws_szTrmCellS.calls k _ _ l0_1 a1 t105 _ ?side1 ?side2 A3.out).mono ?_);(case side1=>exact qz3);(case side2=>exact HC0_1.out);rintro e w19 ⟨rfl,hb⟩;refine ⟨_,rfl,?_⟩;have n0_:=Aside0.mk (blk_below (g:=gb104) (o:=.cells #[.int .i64 a0_0,.slice A0_1 l0_1.length c0_1,.slice A0_2 l0_2.length c0_2,.slice A0_3 l0_3.length c0_3] 24 (0,0)) qz41 hb);have n1_:=Aside0.mk (below_step qz25 hb);clear BK104 HB;have BK104:=n0_;have HB:=n1_;clear n0_ n1_;(try clear hb);(try clear hb2);(try clear hk);(try clear hi);have hcz20_0:w19.cell? ⟨gb104,0,none⟩=some (.int .i64 a0_0):=(blk_cell BK104.out 0).trans rfl;have hcz20_1:w19.cell? ⟨gb104,1,none⟩=some (.slice A0_1 l0_1.length c0_1):=(blk_cell BK104.out 1).trans rfl;have hcz20_2:w19.cell? ⟨gb104,2,none⟩=some (.slice A0_2 l0_2.length c0_2):=(blk_cell BK104.out 2).trans rfl;have hcz20_3:w19.cell? ⟨gb104,3,none⟩=some (.slice A0_3 l0_3.length c0_3):=(blk_cell BK104.out 3).trans rfl;have hfz20_0:=blk_frozen BK104.out 0;have hfz20_1:=blk_frozen BK104.out 1;have hfz20_2:=blk_frozen BK104.out 2;have hfz20_3:=blk_frozen BK104.out 3)|((with_reducible refine gate_callee (f:=17) rfl ?_);refine goesL_ (some 14) rfl rfl Tryd.func17 (by kernel_rfl) rfl #[.slice A0_2 l0_2.length c0_2,.int .i64 t105] rfl qz2 ?_;(with_reducible refine (laws_szTrmCellS.calls k _ _ l0_2 t105 t106 _ ?side1 ?side2 A8.out).mono ?_);(case side1=>exact qz5);(case side2=>exact HC0_2.out);rintro e w21 ⟨rfl,hb⟩;refine ⟨_,rfl,?_⟩;have n0_:=Aside0.mk (blk_below (g:=gb104) (o:=.cells #[.int .i64 a0_0,.slice A0_1 l0_1.length c0_1,.slice A0_2 l0_2.length c0_2,.slice A0_3 l0_3.length c0_3] 24 (0,0)) qz41 hb);have n1_:=Aside0.mk (below_step qz25 hb);clear BK104 HB;have BK104:=n0_;have HB:=n1_;clear n0_ n1_;(try clear hb);(try clear hb2);(try clear hk);(try clear hi);have hcz22_0:w21.cell? ⟨gb104,0,none⟩=some (.int .i64 a0_0):=(blk_cell BK104.out 0).trans rfl;have hcz22_1:w21.cell? ⟨gb104,1,none⟩=some (.slice A0_1 l0_1.length c0_1):=(blk_cell BK104.out 1).trans rfl;have hcz22_2:w21.cell? ⟨gb104,2,none⟩=some (.slice A0_2 l0_2.length c0_2):=(blk_cell BK104.out 2).trans rfl;have hcz22_3:w21.cell? ⟨gb104,3,none⟩=some (.slice A0_3 l0_3.length c0_3):=(blk_cell BK104.out 3).trans rfl;have hfz22_0:=blk_frozen BK104.out 0;have hfz22_1:=blk_frozen BK104.out 1;have hfz22_2:=blk_frozen BK104.out 2;have hfz22_3:=blk_frozen BK104.out 3)|((with_reducible refine gate_callee (f:=17) rfl ?_);refine goesL_ (some 20) rfl rfl Tryd.func17 (by kernel_rfl) rfl #[.slice A0_3 l0_3.length c0_3,.int .i64 t106] rfl qz2 ?_;(with_reducible refine (laws_szTrmCellS.calls k _ _ l0_3 t106 t107 _ ?side1 ?side2 A15.out).mono ?_);(case side1=>exact qz8);(case side2=>exact HC0_3.out);rintro e w23 ⟨rfl,hb⟩;refine ⟨_,rfl,?_⟩;have n0_:=Aside0.mk (blk_below (g:=gb104) (o:=.cells #[.int .i64 a0_0,.slice A0_1 l0_1.length c0_1,.slice A0_2 l0_2.length c0_2,.slice A0_3 l0_3.length c0_3] 24 (0,0)) qz41 hb);have n1_:=Aside0.mk (below_step qz25 hb);clear BK104 HB;have BK104:=n0_;have HB:=n1_;clear n0_ n1_;(try clear hb);(try clear hb2);(try clear hk);(try clear hi)))
    go_ret
    exact ⟨qz4,qz25⟩
   ·rw [if_neg c16] at H
    have c16b0:decide (t107<0)=false:=decide_eq_false c16
    clear c16
    obtain rfl:=Option.some.inj H
    go_enter Tryd.func5,Tryd.ntmps5
    go_wp2_with (first|((with_reducible refine gate_dst (N:=2) rfl ?_);refine box_event ?hg (N:=2) ?hd (cs:=#[.int .i64 a0_0,.slice A0_1 l0_1.length c0_1,.slice A0_2 l0_2.length c0_2,.slice A0_3 l0_3.length c0_3]) (t:=24) ?hr ?_;(case hd=>rfl);(case hg=>rfl);(case hr=>first|(go_simp;done)|(go_simp;rfl));intro gb104 hg w24 hbox hb;have n0_:=Aside0.mk (below_step qz1 hb);have n1_:=Aside0.mk (hbox);have n2_:=Aside0.mk ((by rw [hg];exact (below_size qz1):w.heap.size≤gb104));have n3_:=Aside0.mk ((by rw [hg];exact (below_size qz1):w.heap.size≤gb104));clear HB;have HB:=n0_;have BK104:=n1_;have GW104:=n2_;have GE104:=n3_;clear n0_ n1_ n2_ n3_ hb hbox hg;have hcz25_0:w24.cell? ⟨gb104,0,none⟩=some (.int .i64 a0_0):=(blk_cell BK104.out 0).trans rfl;have hcz25_1:w24.cell? ⟨gb104,1,none⟩=some (.slice A0_1 l0_1.length c0_1):=(blk_cell BK104.out 1).trans rfl;have hcz25_2:w24.cell? ⟨gb104,2,none⟩=some (.slice A0_2 l0_2.length c0_2):=(blk_cell BK104.out 2).trans rfl;have hcz25_3:w24.cell? ⟨gb104,3,none⟩=some (.slice A0_3 l0_3.length c0_3):=(blk_cell BK104.out 3).trans rfl;have hfz25_0:=blk_frozen BK104.out 0;have hfz25_1:=blk_frozen BK104.out 1;have hfz25_2:=blk_frozen BK104.out 2;have hfz25_3:=blk_frozen BK104.out 3)|((with_reducible refine gate_callee (f:=17) rfl ?_);refine goesL_ (some 8) rfl rfl Tryd.func17 (by kernel_rfl) rfl #[.slice A0_1 l0_1.length c0_1,.int .i64 a1] rfl qz2 ?_;(with_reducible refine (laws_szTrmCellS.calls k _ _ l0_1 a1 t105 _ ?side1 ?side2 A3.out).mono ?_);(case side1=>exact qz3);(case side2=>exact HC0_1.out);rintro e w26 ⟨rfl,hb⟩;refine ⟨_,rfl,?_⟩;have n0_:=Aside0.mk (blk_below (g:=gb104) (o:=.cells #[.int .i64 a0_0,.slice A0_1 l0_1.length c0_1,.slice A0_2 l0_2.length c0_2,.slice A0_3 l0_3.length c0_3] 24 (0,0)) qz41 hb);have n1_:=Aside0.mk (below_step qz25 hb);clear BK104 HB;have BK104:=n0_;have HB:=n1_;clear n0_ n1_;(try clear hb);(try clear hb2);(try clear hk);(try clear hi);have hcz27_0:w26.cell? ⟨gb104,0,none⟩=some (.int .i64 a0_0):=(blk_cell BK104.out 0).trans rfl;have hcz27_1:w26.cell? ⟨gb104,1,none⟩=some (.slice A0_1 l0_1.length c0_1):=(blk_cell BK104.out 1).trans rfl;have hcz27_2:w26.cell? ⟨gb104,2,none⟩=some (.slice A0_2 l0_2.length c0_2):=(blk_cell BK104.out 2).trans rfl;have hcz27_3:w26.cell? ⟨gb104,3,none⟩=some (.slice A0_3 l0_3.length c0_3):=(blk_cell BK104.out 3).trans rfl;have hfz27_0:=blk_frozen BK104.out 0;have hfz27_1:=blk_frozen BK104.out 1;have hfz27_2:=blk_frozen BK104.out 2;have hfz27_3:=blk_frozen BK104.out 3)|((with_reducible refine gate_callee (f:=17) rfl ?_);refine goesL_ (some 14) rfl rfl Tryd.func17 (by kernel_rfl) rfl #[.slice A0_2 l0_2.length c0_2,.int .i64 t105] rfl qz2 ?_;(with_reducible refine (laws_szTrmCellS.calls k _ _ l0_2 t105 t106 _ ?side1 ?side2 A8.out).mono ?_);(case side1=>exact qz5);(case side2=>exact HC0_2.out);rintro e w28 ⟨rfl,hb⟩;refine ⟨_,rfl,?_⟩;have n0_:=Aside0.mk (blk_below (g:=gb104) (o:=.cells #[.int .i64 a0_0,.slice A0_1 l0_1.length c0_1,.slice A0_2 l0_2.length c0_2,.slice A0_3 l0_3.length c0_3] 24 (0,0)) qz41 hb);have n1_:=Aside0.mk (below_step qz25 hb);clear BK104 HB;have BK104:=n0_;have HB:=n1_;clear n0_ n1_;(try clear hb);(try clear hb2);(try clear hk);(try clear hi);have hcz29_0:w28.cell? ⟨gb104,0,none⟩=some (.int .i64 a0_0):=(blk_cell BK104.out 0).trans rfl;have hcz29_1:w28.cell? ⟨gb104,1,none⟩=some (.slice A0_1 l0_1.length c0_1):=(blk_cell BK104.out 1).trans rfl;have hcz29_2:w28.cell? ⟨gb104,2,none⟩=some (.slice A0_2 l0_2.length c0_2):=(blk_cell BK104.out 2).trans rfl;have hcz29_3:w28.cell? ⟨gb104,3,none⟩=some (.slice A0_3 l0_3.length c0_3):=(blk_cell BK104.out 3).trans rfl;have hfz29_0:=blk_frozen BK104.out 0;have hfz29_1:=blk_frozen BK104.out 1;have hfz29_2:=blk_frozen BK104.out 2;have hfz29_3:=blk_frozen BK104.out 3)|((with_reducible refine gate_callee (f:=17) rfl ?_);refine goesL_ (some 20) rfl rfl Tryd.func17 (by kernel_rfl) rfl #[.slice A0_3 l0_3.length c0_3,.int .i64 t106] rfl qz2 ?_;(with_reducible refine (laws_szTrmCellS.calls k _ _ l0_3 t106 t107 _ ?side1 ?side2 A15.out).mono ?_);(case side1=>exact qz8);(case side2=>exact HC0_3.out);rintro e w30 ⟨rfl,hb⟩;refine ⟨_,rfl,?_⟩;have n0_:=Aside0.mk (blk_below (g:=gb104) (o:=.cells #[.int .i64 a0_0,.slice A0_1 l0_1.length c0_1,.slice A0_2 l0_2.length c0_2,.slice A0_3 l0_3.length c0_3] 24 (0,0)) qz41 hb);have n1_:=Aside0.mk (below_step qz25 hb);clear BK104 HB;have BK104:=n0_;have HB:=n1_;clear n0_ n1_;(try clear hb);(try clear hb2);(try clear hk);(try clear hi)))
    go_ret
    exact ⟨qz4,qz25⟩

/-! ### laws_toTrmCell: function 43 -/
def laws_toTrmCell.f (a0_0:Int) (a0_1:Int) (a0_2:ByteArray):Option (Int × Int × ByteArray):=some (a0_0,a0_1,a0_2)
set_option maxHeartbeats 8000000 in
set_option maxRecDepth 100000 in
theorem laws_toTrmCell.calls (a0_0:Int) (a0_1:Int) (a0_2:ByteArray) (r1:Int) (r2:Int) (r3:ByteArray) (w:World) (h:laws_toTrmCell.f a0_0 a0_1 a0_2=some (r1,r2,r3)) :
  Calls Tryd.prog 43 #[.agg #[.int .i64 a0_0,.int .i64 a0_1,.string a0_2]] w fun e w'=>e = .returned (.agg #[.int .i64 r1,.int .i64 r2,.string r3])∧Below w.heap.size w w':=by
 have hu74:=Tryd.underlying74
 have hu44:=Tryd.underlying44
 have HB:=Aside0.mk (Below.refl w.heap.size w)
 have H:(some (a0_0,a0_1,a0_2))=some (r1,r2,r3):=h
 clear h
 simp only [Option.some.injEq,Prod.mk.injEq] at H
 obtain ⟨rfl,rfl,rfl⟩:=H
 go_enter Tryd.func43,Tryd.ntmps43
 go_wp2_with (first|((with_reducible refine gate_dst (N:=1) rfl ?_);refine box_event ?hg (N:=1) ?hd (cs:=#[.int .i64 a0_0,.int .i64 a0_1,.string a0_2]) (t:=74) ?hr ?_;(case hd=>rfl);(case hg=>rfl);(case hr=>first|(go_simp;done)|(go_simp;rfl));intro gb168 hg w2 hbox hb;have n0_:=Aside0.mk (below_step qz1 hb);have n1_:=Aside0.mk (hbox);have n2_:=Aside0.mk ((by rw [hg];exact (below_size qz1):w.heap.size≤gb168));have n3_:=Aside0.mk ((by rw [hg];exact (below_size qz1):w.heap.size≤gb168));clear HB;have HB:=n0_;have BK168:=n1_;have GW168:=n2_;have GE168:=n3_;clear n0_ n1_ n2_ n3_ hb hbox hg)|((with_reducible refine gate_dst (N:=2) rfl ?_);refine box_event ?hg (N:=2) ?hd (cs:=#[.int .i64 0,.int .i64 0,.string (⟨#[]⟩:ByteArray)]) (t:=44) ?hr ?_;(case hd=>rfl);(case hg=>rfl);(case hr=>first|(go_simp;done)|(go_simp;rfl));intro gb169 hg w3 hbox hb;have n0_:=Aside0.mk (blk_below (g:=gb168) (o:=.cells #[.int .i64 a0_0,.int .i64 a0_1,.string a0_2] 74 (0,0)) qz47 hb);have n1_:=Aside0.mk (below_step qz70 hb);have n2_:=Aside0.mk (hbox);have n3_:=Aside0.mk ((by rw [hg];exact (below_size qz70):w.heap.size≤gb169));have n4_:=Aside0.mk ((by rw [hg];exact (below_size qz70):w.heap.size≤gb169));have n5_:=Aside0.mk ((by rw [hg];exact Nat.ne_of_lt (blk_lt (g:=gb168) (o:=.cells #[.int .i64 a0_0,.int .i64 a0_1,.string a0_2] 74 (0,0)) qz47):gb168≠gb169));have n6_:=Aside0.mk ((by rw [hg];exact Nat.ne_of_gt (blk_lt (g:=gb168) (o:=.cells #[.int .i64 a0_0,.int .i64 a0_1,.string a0_2] 74 (0,0)) qz47):gb169≠gb168));clear BK168 HB;have BK168:=n0_;have HB:=n1_;have BK169:=n2_;have GW169:=n3_;have GE169:=n4_;have NB168_169:=n5_;have NB169_168:=n6_;clear n0_ n1_ n2_ n3_ n4_ n5_ n6_ hb hbox hg)|((with_reducible refine gate_dst (N:=3) rfl ?_);refine box_event ?hg (N:=3) ?hd (cs:=#[.int .i64 0,.int .i64 0,.string (⟨#[]⟩:ByteArray)]) (t:=44) ?hr ?_;(case hd=>rfl);(case hg=>rfl);(case hr=>first|(go_simp;done)|(go_simp;rfl));intro gb170 hg w4 hbox hb;have n0_:=Aside0.mk (blk_below (g:=gb168) (o:=.cells #[.int .i64 a0_0,.int .i64 a0_1,.string a0_2] 74 (0,0)) qz47 hb);have n1_:=Aside0.mk (blk_below (g:=gb169) (o:=.cells #[.int .i64 0,.int .i64 0,.string (⟨#[]⟩:ByteArray)] 44 (0,0)) qz78 hb);have n2_:=Aside0.mk (below_step qz61 hb);have n3_:=Aside0.mk (hbox);have n4_:=Aside0.mk ((by rw [hg];exact (below_size qz61):w.heap.size≤gb170));have n5_:=Aside0.mk ((by rw [hg];exact (below_size qz61):w.heap.size≤gb170));have n6_:=Aside0.mk ((by rw [hg];exact Nat.ne_of_lt (blk_lt (g:=gb168) (o:=.cells #[.int .i64 a0_0,.int .i64 a0_1,.string a0_2] 74 (0,0)) qz47):gb168≠gb170));have n7_:=Aside0.mk ((by rw [hg];exact Nat.ne_of_gt (blk_lt (g:=gb168) (o:=.cells #[.int .i64 a0_0,.int .i64 a0_1,.string a0_2] 74 (0,0)) qz47):gb170≠gb168));have n8_:=Aside0.mk ((by rw [hg];exact Nat.ne_of_lt (blk_lt (g:=gb169) (o:=.cells #[.int .i64 0,.int .i64 0,.string (⟨#[]⟩:ByteArray)] 44 (0,0)) qz78):gb169≠gb170));have n9_:=Aside0.mk ((by rw [hg];exact Nat.ne_of_gt (blk_lt (g:=gb169) (o:=.cells #[.int .i64 0,.int .i64 0,.string (⟨#[]⟩:ByteArray)] 44 (0,0)) qz78):gb170≠gb169));clear BK168 BK169 HB;have BK168:=n0_;have BK169:=n1_;have HB:=n2_;have BK170:=n3_;have GW170:=n4_;have GE170:=n5_;have NB168_170:=n6_;have NB170_168:=n7_;have NB169_170:=n8_;have NB170_169:=n9_;clear n0_ n1_ n2_ n3_ n4_ n5_ n6_ n7_ n8_ n9_ hb hbox hg;have hnb5:=NB168_169.out;have hnc5:=NB169_168.out;have hnb6:=NB168_170.out;have hnc6:=NB170_168.out;have hcz7_0:w4.cell? ⟨gb168,0,none⟩=some (.int .i64 a0_0):=(blk_cell BK168.out 0).trans rfl;have hcz7_1:w4.cell? ⟨gb168,1,none⟩=some (.int .i64 a0_1):=(blk_cell BK168.out 1).trans rfl;have hcz7_2:w4.cell? ⟨gb168,2,none⟩=some (.string a0_2):=(blk_cell BK168.out 2).trans rfl;have hfz7_0:=blk_frozen BK168.out 0;have hfz7_1:=blk_frozen BK168.out 1;have hfz7_2:=blk_frozen BK168.out 2;have hnb8:=NB170_169.out;have hnc8:=NB169_170.out;have hcz9_0:w4.cell? ⟨gb170,0,none⟩=some (.int .i64 0):=(blk_cell BK170.out 0).trans rfl;have hcz9_1:w4.cell? ⟨gb170,1,none⟩=some (.int .i64 0):=(blk_cell BK170.out 1).trans rfl;have hcz9_2:w4.cell? ⟨gb170,2,none⟩=some (.string (⟨#[]⟩:ByteArray)):=(blk_cell BK170.out 2).trans rfl;have hfz9_0:=blk_frozen BK170.out 0;have hfz9_1:=blk_frozen BK170.out 1;have hfz9_2:=blk_frozen BK170.out 2;have hcz10_0:w4.cell? ⟨gb169,0,none⟩=some (.int .i64 0):=(blk_cell BK169.out 0).trans rfl;have hcz10_1:w4.cell? ⟨gb169,1,none⟩=some (.int .i64 0):=(blk_cell BK169.out 1).trans rfl;have hcz10_2:w4.cell? ⟨gb169,2,none⟩=some (.string (⟨#[]⟩:ByteArray)):=(blk_cell BK169.out 2).trans rfl;have hfz10_0:=blk_frozen BK169.out 0;have hfz10_1:=blk_frozen BK169.out 1;have hfz10_2:=blk_frozen BK169.out 2))
 refine bodyPost_ret (results_cell_row rfl _ _ gb169 44 #[.int .i64 a0_0,.int .i64 a0_1,.string a0_2] (0,0) _ rfl (by (with_reducible repeat (first|refine blk_drewN ?_ _|refine blk_drew ?_|refine blk_alloc ?_ _));refine blk_put (cs:=#[.int .i64 a0_0,.int .i64 a0_1,.string (⟨#[]⟩:ByteArray)]) ?_ 2 _ rfl;(with_reducible repeat (first|refine blk_drewN ?_ _|refine blk_drew ?_|refine blk_alloc ?_ _));refine blk_put (cs:=#[.int .i64 a0_0,.int .i64 0,.string (⟨#[]⟩:ByteArray)]) ?_ 1 _ rfl;(with_reducible repeat (first|refine blk_drewN ?_ _|refine blk_drew ?_|refine blk_alloc ?_ _));refine blk_put (cs:=#[.int .i64 0,.int .i64 0,.string (⟨#[]⟩:ByteArray)]) ?_ 0 _ rfl;(with_reducible repeat (first|refine blk_drewN ?_ _|refine blk_drew ?_|refine blk_alloc ?_ _));refine blk_far ?_ NB169_170.out _;(with_reducible repeat (first|refine blk_drewN ?_ _|refine blk_drew ?_|refine blk_alloc ?_ _));refine blk_far ?_ NB169_170.out _;(with_reducible repeat (first|refine blk_drewN ?_ _|refine blk_drew ?_|refine blk_alloc ?_ _));refine blk_far ?_ NB169_170.out _;(with_reducible repeat (first|refine blk_drewN ?_ _|refine blk_drew ?_|refine blk_alloc ?_ _));exact BK169.out) Tryd.underlying44 rfl (by kernel_rfl)) rfl ?_
 exact ⟨qz4,by repeat (first|(with_reducible first|exact HB.out|apply below_alloc|apply pw_below_drewN|apply below_drew1|refine below_set ?_ GE168.out|refine below_set ?_ GE169.out|refine below_set ?_ GE170.out)|exact HB.out)⟩

/-! ### laws_toTrmCellS: function 20 -/
def laws_toTrmCellS.l0:Nat→List (S74)→List (S44)→Int→Option ((List (S44)))
 | 0,_,_,_=>none
 | k+1,x0,x3,x4=>if x4<(x0.length:Int) then (if 0≤x4 then ((laws_toTrmCell.f ((rd_T74 x0 x4).f0) ((rd_T74 x0 x4).f1) ((rd_T74 x0 x4).f2)).bind fun bt175=>(if x4<(x3.length:Int) then (laws_toTrmCellS.l0 k x0 (x3.set (x4:Int).toNat (⟨bt175.1,bt175.2.1,bt175.2.2⟩:S44)) (wrap64 (x4+1))) else (none))) else (none)) else (some x3)
def laws_toTrmCellS.f (k:Nat) (l0:List (S74)):Option ((List (S44))):=if 0≤(l0.length:Int) then (if ((l0.length:Int):Int).toNat≤8796093022208 then (laws_toTrmCellS.l0 k l0 (List.replicate ((l0.length:Int):Int).toNat z44) 0) else (none)) else (none)
set_option maxHeartbeats 8000000 in
set_option maxRecDepth 100000 in
theorem laws_toTrmCellS.calls (k:Nat) (A0:Option Addr) (c0:Nat) (l0:List (S74)) (r:List (S44)) (w:World) (hr0:Kd.C k74 w A0 l0.length l0) (hc0:l0.length≤c0) (h:laws_toTrmCellS.f k l0=some r) :
  Calls Tryd.prog 20 #[.slice A0 l0.length c0] w fun e w'=>∃ v0_:Value,e = .returned (v0_)∧Kd.R k44 44 w' w.heap.size (fun _=>True) v0_ r∧Below w.heap.size w w':=by
 have hu74:=Tryd.underlying74
 have hu44:=Tryd.underlying44
 have HR0:=Aside0.mk hr0
 have HC0:=Aside0.mk hc0
 clear hr0 hc0
 have HB:=Aside0.mk (Below.refl w.heap.size w)
 have H:(if 0≤(l0.length:Int) then (if ((l0.length:Int):Int).toNat≤8796093022208 then (laws_toTrmCellS.l0 k l0 (List.replicate ((l0.length:Int):Int).toNat z44) 0) else (none)) else (none))=some r:=h
 clear h
 by_cases c2:0≤(l0.length:Int)
 ·rw [if_pos c2] at H
  have c2b0:=eq_true c2
  have c2b1:decide (0≤(l0.length:Int))=true:=decide_eq_true c2
  clear c2
  by_cases c3:((l0.length:Int):Int).toNat≤8796093022208
  ·rw [if_pos c3] at H
   have c3b0:=eq_true c3
   have c3b1:decide (((l0.length:Int):Int).toNat≤8796093022208)=true:=decide_eq_true c3
   clear c3
   obtain ⟨y171,hy171⟩:∃ y_:List (S44),y_=(List.replicate ((l0.length:Int):Int).toNat z44):=⟨_,rfl⟩
   replace H:(laws_toTrmCellS.l0 k l0 y171 0)=some r:=by first|(rw [hy171];exact H)|exact H
   have Ny171:=Aside0.mk hy171
   clear hy171
   have H':=Aside0.mk H
   clear H
   go_enter Tryd.func20,Tryd.ntmps20
   go_wp2_with (first|((with_reducible refine gate_dst (N:=7) rfl ?_);refine Kd.R_make k44 _ 44 rfl (N:=7) rfl 27 _ _ rfl (l0.length:Int) rfl rfl Tryd.underlying27 (.agg #[(.int .i64 0),(.int .i64 0),(.string ⟨#[]⟩)]) 32 info44 rfl (by decide) (by omega) z44 (ok:=fun _=>True) (okp:=fun _=>True) (k44_mkM _ _ _ z44 ) (fun _ hk=>hk) trivial (of_decide_eq_true qz12) (Nat.le_trans (Nat.mul_le_mul_right _ (of_decide_eq_true qz12:(l0.length:Int).toNat≤8796093022208)) (by omega)) (Below.refl _ _) (Nat.le_refl _) ?_;intro v172 w4 ho5 hb hg_ hnew_;clear hg_ hnew_;(first|rw [← Ny171.out] at ho5|(simp only [Int.reduceToNat] at ho5;rw [← Ny171.out] at ho5));have n0_:=Aside0.mk (Kd.R_lower ho5 (below_size qz1));have n1_:=Aside0.mk (below_step qz1 hb);clear HB;have HO173:=n0_;have HB:=n1_;clear n0_ n1_ hb ho5))
   go_loopg [4] k (fun kq v4 w'=>∃ (x3_1:List (S44)) (x4_1:Int),v4 = .int .i64 x4_1∧Aside0 (laws_toTrmCellS.l0 kq l0 x3_1 x4_1=some r)∧Aside0 (kq≤k)∧Aside0 (Kd.R k44 44 w' w.heap.size (fun _=>True) v172 x3_1)∧Aside0 (Below w.heap.size w w'))
   case atStart=>exact ⟨(y171),(0),qz16,H',⟨Nat.le_refl _⟩,⟨by (with_reducible repeat (first|apply Kd.R_alloc|apply Kd.R_drewN|apply Kd.R_drew));exact HO173.out⟩,⟨qz6⟩⟩
   case round=>
    clear H'
    try clear c2
    try clear c2b0
    try clear c2b1
    try clear p2
    try clear c3
    try clear c3b0
    try clear c3b1
    obtain ⟨x3_1,x4_1,rfl,HA,HK1,HO_3,HB⟩:=hrel
    cases gk with
    | zero=>exact absurd HA.out (by simp [laws_toTrmCellS.l0])
    | succ k1=>
     have H:=HA.out
     clear HA
     simp only [laws_toTrmCellS.l0] at H
     by_cases c6:x4_1<(l0.length:Int)
     ·rw [if_pos c6] at H
      have c6b0:decide (x4_1<(l0.length:Int))=true:=decide_eq_true c6
      clear c6
      by_cases c7:0≤x4_1
      ·rw [if_pos c7] at H
       have c7b0:decide (0≤x4_1)=true:=decide_eq_true c7
       clear c7
       replace H:=Option.bind_eq_some_iff.mp H
       obtain ⟨⟨t175,t176,t177⟩,A80,H⟩:=H
       try dsimp only at H
       have A8:=Aside0.mk A80
       clear A80
       by_cases c9:x4_1<(x3_1.length:Int)
       ·rw [if_pos c9] at H
        have c9b0:decide (x4_1<(x3_1.length:Int))=true:=decide_eq_true c9
        clear c9
        obtain ⟨y178,hy178⟩:∃ y_:List (S44),y_=(x3_1.set (x4_1:Int).toNat (⟨t175,t176,t177⟩:S44)):=⟨_,rfl⟩
        replace H:(laws_toTrmCellS.l0 k1 l0 y178 (wrap64 (x4_1+1)))=some r:=by first|(rw [hy178];exact H)|exact H
        have Ny178:=Aside0.mk hy178
        clear hy178
        have H':=Aside0.mk H
        clear H
        have p174:0≤(x4_1:Int):=of_decide_eq_true qz12
        have q174:x4_1<(l0.length:Int):=of_decide_eq_true qz12
        obtain ⟨ad174,e174,hx174_0,hx174_1,hx174_2⟩:=at_T74 HR0.out x4_1 p174 q174
        cases e174
        replace hx174_0:=(HB.out.cell (World.block_lt_of_cell? w _ hx174_0)).trans hx174_0
        replace hx174_1:=(HB.out.cell (World.block_lt_of_cell? w _ hx174_1)).trans hx174_1
        replace hx174_2:=(HB.out.cell (World.block_lt_of_cell? w _ hx174_2)).trans hx174_2
        replace p174:=eq_true p174
        replace q174:=eq_true q174
        go_wp2_with (first|((with_reducible refine gate_callee (f:=43) rfl ?_);refine goesL_ (some 20) rfl rfl Tryd.func43 (by kernel_rfl) rfl #[.agg #[.int .i64 ((rd_T74 l0 x4_1).f0),.int .i64 ((rd_T74 l0 x4_1).f1),.string ((rd_T74 l0 x4_1).f2)]] rfl qz2 ?_;(with_reducible refine (laws_toTrmCell.calls ((rd_T74 l0 x4_1).f0) ((rd_T74 l0 x4_1).f1) ((rd_T74 l0 x4_1).f2) t175 t176 t177 _ A8.out).mono ?_);rintro e w11 ⟨rfl,hb⟩;refine ⟨_,rfl,?_⟩;have n0_:=Aside0.mk (Kd.R_below qz71 hb);have n1_:=Aside0.mk (below_step qz1 hb);clear HO_3 HB;have HO_3:=n0_;have HB:=n1_;clear n0_ n1_;(try clear hb);(try clear hb2);(try clear hk);(try clear hi);have p10:0≤(x4_1:Int):=of_decide_eq_true qz12;have q10:(x4_1:Int)<((x3_1.length:Int):Int):=of_decide_eq_true qz12;obtain ⟨go10,co10,eo10,gb10,gl10,cl10,HG10⟩:=Kd.R_form HO_3.out (by omega);(first|cases eo10|(injection eo10 with ea_ en_ ec_;(first|subst ea_|(injection ea_ with ea_;subst ea_));subst ec_;clear en_));have GB10:=Aside0.mk gb10;have GG10:=Aside0.mk HG10;clear gb10 gl10 HG10;obtain ⟨ce10,hcl10,hM10,hcc10,hfr10⟩:=Kd.R_elem HO_3.out z44 (x4_1:Int) p10 q10;obtain rfl:=k44_openM hM10;have hx10_0:w11.cell? ⟨go10,(x4_1:Int).toNat * 3,none⟩=some (.int .i64 ((rd_T44 x3_1 x4_1).f0)):=hcc10 0 _ rfl;have hx10_1:w11.cell? ⟨go10,(x4_1:Int).toNat * 3+1,none⟩=some (.int .i64 ((rd_T44 x3_1 x4_1).f1)):=hcc10 1 _ rfl;have hx10_2:w11.cell? ⟨go10,(x4_1:Int).toNat * 3+2,none⟩=some (.string ((rd_T44 x3_1 x4_1).f2)):=hcc10 2 _ rfl;have hf10_0:w11.frozen? ⟨go10,(x4_1:Int).toNat * 3,none⟩=false:=hfr10 0;have hf10_1:w11.frozen? ⟨go10,(x4_1:Int).toNat * 3+1,none⟩=false:=hfr10 1;have hf10_2:w11.frozen? ⟨go10,(x4_1:Int).toNat * 3+2,none⟩=false:=hfr10 2;(try clear hcl10);(try clear hcc10);(try clear hfr10);(try clear hM10);replace p10:=eq_true p10;replace q10:=eq_true q10;have HX12:=Aside0.mk (show Kd.R k44 44 w11 w.heap.size (fun _=>True) (.slice (some ⟨go10,0,none⟩) x3_1.length co10) x3_1 from qz71);obtain ⟨ce12,hcl12,hM12,hcc12,hfr12⟩:=Kd.R_elem HX12.out z44 (x4_1:Int) (of_decide_eq_true qz12) (by have h_:(x4_1:Int)<((x3_1.length:Int):Int):=of_decide_eq_true qz12;first|exact h_|(have e_:=(Kd.R_reads' HO_3.out).1;omega)|simpa using h_);obtain rfl:=k44_openM hM12;have HP12:=Kd.R_seg HX12.out (x4_1:Int) (of_decide_eq_true qz12) (by have h_:(x4_1:Int)<((x3_1.length:Int):Int):=of_decide_eq_true qz12;first|exact h_|(have e_:=(Kd.R_reads' HO_3.out).1;omega)|simpa using h_) (seg:=[.int .i64 t175,.int .i64 t176,.string t177]) (j:=0) hcl12 hcc12 (show 3≤3 from by decide) (x':=(⟨t175,t176,t177⟩:S44)) (k44_mkM _ _ _ (⟨t175,t176,t177⟩:S44) ) (fun _ hk=>hk);have hx12_0:=hcc12 0 _ rfl;(try simp only [show (k44).sz=3 from rfl,Nat.mul_one,Nat.add_zero] at hx12_0);have hf12_0:=hfr12 0;(try simp only [show (k44).sz=3 from rfl,Nat.mul_one,Nat.add_zero] at hf12_0);have hx12_1:=hcc12 1 _ rfl;(try simp only [show (k44).sz=3 from rfl,Nat.mul_one,Nat.add_zero] at hx12_1);have hf12_1:=hfr12 1;(try simp only [show (k44).sz=3 from rfl,Nat.mul_one,Nat.add_zero] at hf12_1);have hx12_2:=hcc12 2 _ rfl;(try simp only [show (k44).sz=3 from rfl,Nat.mul_one,Nat.add_zero] at hx12_2);have hf12_2:=hfr12 2;(try simp only [show (k44).sz=3 from rfl,Nat.mul_one,Nat.add_zero] at hf12_2);clear hcl12 hcc12 hfr12 hM12)|((with_reducible refine gate_store (t:=44) (p:=21) rfl ?_);refine store_event (t:=44) (p:=21) (v:=?vo_w13) (w1:=(((w11.setCell ⟨go10,(x4_1:Int).toNat * 3,none⟩ (.int .i64 t175)).setCell ⟨go10,(x4_1:Int).toNat * 3+1,none⟩ (.int .i64 t176)).setCell ⟨go10,(x4_1:Int).toNat * 3+2,none⟩ (.string t177))) ?hg ?ho ?hn ?hr ?_;(case ho=>rfl);(case hg=>rfl);(case hn=>rfl);(case hr=>first|(go_simp;done)|(go_simp;rfl));intro w13 hw;have hg:w11.grownBy w13 (some go10):=(by rw [hw];exact HP12.2);have hp_:Kd.R k44 44 w13 w.heap.size (fun _=>True) (.slice (some ⟨go10,0,none⟩) x3_1.length co10) y178:=(by rw [hw,Ny178.out];exact HP12.1);clear HP12;have n0_:=Aside0.mk (hp_);have n1_:=Aside0.mk ((by rw [hw];exact below_set (below_set (below_set (HB.out) GB10.out) GB10.out) GB10.out:Below w.heap.size w w13));clear HO_3 HB;have HO_3:=n0_;have HB:=n1_;clear n0_ n1_ hg hw hp_))
        go_roundg k1
        case measure=>have:=HK1.out;omega
        case rel=>exact ⟨(y178),(wrap64 (x4_1+1)),qz16,H',⟨by have:=HK1.out;omega⟩,⟨qz71⟩,⟨qz6⟩⟩
       ·rw [if_neg c9] at H
        exact absurd H (by simp)
      ·rw [if_neg c7] at H
       exact absurd H (by simp)
     ·rw [if_neg c6] at H
      have c6b0:decide (x4_1<(l0.length:Int))=false:=decide_eq_false c6
      clear c6
      obtain rfl:=Option.some.inj H
      go_wp2
      go_ret
      exact ⟨_,qz4,qz71,qz6⟩
  ·rw [if_neg c3] at H
   exact absurd H (by simp)
 ·rw [if_neg c2] at H
  exact absurd H (by simp)

/-! ### laws_toPrgGoal: function 7 -/
def laws_toPrgGoal.f (k:Nat) (a0_0:Int) (l0_1:List (S74)) (l0_2:List (S74)) (l0_3:List (S74)):Option (Int × (List (S44)) × (List (S44)) × (List (S44))):=(laws_toTrmCellS.f k l0_1).bind fun t182=>((laws_toTrmCellS.f k l0_2).bind fun t185=>((laws_toTrmCellS.f k l0_3).bind fun t188=>(some (a0_0,t182,t185,t188))))
set_option maxHeartbeats 8000000 in
set_option maxRecDepth 100000 in
theorem laws_toPrgGoal.calls (k:Nat) (a0_0:Int) (A0_1:Option Addr) (c0_1:Nat) (l0_1:List (S74)) (A0_2:Option Addr) (c0_2:Nat) (l0_2:List (S74)) (A0_3:Option Addr) (c0_3:Nat) (l0_3:List (S74)) (r1:Int) (r2:List (S44)) (r3:List (S44)) (r4:List (S44)) (w:World) (hr0_1:Kd.C k74 w A0_1 l0_1.length l0_1) (hc0_1:l0_1.length≤c0_1) (hr0_2:Kd.C k74 w A0_2 l0_2.length l0_2) (hc0_2:l0_2.length≤c0_2) (hr0_3:Kd.C k74 w A0_3 l0_3.length l0_3) (hc0_3:l0_3.length≤c0_3) (h:laws_toPrgGoal.f k a0_0 l0_1 l0_2 l0_3=some (r1,r2,r3,r4)) :
  Calls Tryd.prog 7 #[.agg #[.int .i64 a0_0,.slice A0_1 l0_1.length c0_1,.slice A0_2 l0_2.length c0_2,.slice A0_3 l0_3.length c0_3]] w fun e w'=>∃ v1_ v2_ v3_:Value,e = .returned (.agg #[.int .i64 r1,v1_,v2_,v3_])∧Kd.R k44 44 w' w.heap.size (fun k_=>some k_≠(v2_:Value).ownBlock∧some k_≠(v3_:Value).ownBlock) v1_ r2∧Kd.R k44 44 w' w.heap.size (fun k_=>some k_≠(v1_:Value).ownBlock∧some k_≠(v3_:Value).ownBlock) v2_ r3∧Kd.R k44 44 w' w.heap.size (fun k_=>some k_≠(v1_:Value).ownBlock∧some k_≠(v2_:Value).ownBlock) v3_ r4∧Below w.heap.size w w':=by
 have hu24:=Tryd.underlying24
 have hu29:=Tryd.underlying29
 have HR0_1:=Aside0.mk hr0_1
 have HC0_1:=Aside0.mk hc0_1
 clear hr0_1 hc0_1
 have HR0_2:=Aside0.mk hr0_2
 have HC0_2:=Aside0.mk hc0_2
 clear hr0_2 hc0_2
 have HR0_3:=Aside0.mk hr0_3
 have HC0_3:=Aside0.mk hc0_3
 clear hr0_3 hc0_3
 have HB:=Aside0.mk (Below.refl w.heap.size w)
 have H:((laws_toTrmCellS.f k l0_1).bind fun t182=>((laws_toTrmCellS.f k l0_2).bind fun t185=>((laws_toTrmCellS.f k l0_3).bind fun t188=>(some (a0_0,t182,t185,t188)))))=some (r1,r2,r3,r4):=h
 clear h
 replace H:=Option.bind_eq_some_iff.mp H
 obtain ⟨t182,A20,H⟩:=H
 try dsimp only at H
 have A2:=Aside0.mk A20
 clear A20
 replace H:=Option.bind_eq_some_iff.mp H
 obtain ⟨t185,A30,H⟩:=H
 try dsimp only at H
 have A3:=Aside0.mk A30
 clear A30
 replace H:=Option.bind_eq_some_iff.mp H
 obtain ⟨t188,A40,H⟩:=H
 try dsimp only at H
 have A4:=Aside0.mk A40
 clear A40
 simp only [Option.some.injEq,Prod.mk.injEq] at H
 obtain ⟨rfl,rfl,rfl,rfl⟩:=H
 go_enter Tryd.func7,Tryd.ntmps7
 go_wp2_with (first|((with_reducible refine gate_dst (N:=1) rfl ?_);refine box_event ?hg (N:=1) ?hd (cs:=#[.int .i64 a0_0,.slice A0_1 l0_1.length c0_1,.slice A0_2 l0_2.length c0_2,.slice A0_3 l0_3.length c0_3]) (t:=24) ?hr ?_;(case hd=>rfl);(case hg=>rfl);(case hr=>first|(go_simp;done)|(go_simp;rfl));intro gb179 hg w5 hbox hb;have n0_:=Aside0.mk (below_step qz1 hb);have n1_:=Aside0.mk (hbox);have n2_:=Aside0.mk ((by rw [hg];exact (below_size qz1):w.heap.size≤gb179));have n3_:=Aside0.mk ((by rw [hg];exact (below_size qz1):w.heap.size≤gb179));clear HB;have HB:=n0_;have BK179:=n1_;have GW179:=n2_;have GE179:=n3_;clear n0_ n1_ n2_ n3_ hb hbox hg)|((with_reducible refine gate_dst (N:=2) rfl ?_);refine box_event ?hg (N:=2) ?hd (cs:=#[.int .i64 0,.slice none 0 0,.slice none 0 0,.slice none 0 0]) (t:=29) ?hr ?_;(case hd=>rfl);(case hg=>rfl);(case hr=>first|(go_simp;done)|(go_simp;rfl));intro gb180 hg w6 hbox hb;have n0_:=Aside0.mk (blk_below (g:=gb179) (o:=.cells #[.int .i64 a0_0,.slice A0_1 l0_1.length c0_1,.slice A0_2 l0_2.length c0_2,.slice A0_3 l0_3.length c0_3] 24 (0,0)) qz46 hb);have n1_:=Aside0.mk (below_step qz69 hb);have n2_:=Aside0.mk (hbox);have n3_:=Aside0.mk ((by rw [hg];exact (below_size qz69):w.heap.size≤gb180));have n4_:=Aside0.mk ((by rw [hg];exact (below_size qz69):w.heap.size≤gb180));have n5_:=Aside0.mk ((by rw [hg];exact Nat.ne_of_lt (blk_lt (g:=gb179) (o:=.cells #[.int .i64 a0_0,.slice A0_1 l0_1.length c0_1,.slice A0_2 l0_2.length c0_2,.slice A0_3 l0_3.length c0_3] 24 (0,0)) qz46):gb179≠gb180));have n6_:=Aside0.mk ((by rw [hg];exact Nat.ne_of_gt (blk_lt (g:=gb179) (o:=.cells #[.int .i64 a0_0,.slice A0_1 l0_1.length c0_1,.slice A0_2 l0_2.length c0_2,.slice A0_3 l0_3.length c0_3] 24 (0,0)) qz46):gb180≠gb179));clear BK179 HB;have BK179:=n0_;have HB:=n1_;have BK180:=n2_;have GW180:=n3_;have GE180:=n4_;have NB179_180:=n5_;have NB180_179:=n6_;clear n0_ n1_ n2_ n3_ n4_ n5_ n6_ hb hbox hg)|((with_reducible refine gate_dst (N:=3) rfl ?_);refine box_event ?hg (N:=3) ?hd (cs:=#[.int .i64 0,.slice none 0 0,.slice none 0 0,.slice none 0 0]) (t:=29) ?hr ?_;(case hd=>rfl);(case hg=>rfl);(case hr=>first|(go_simp;done)|(go_simp;rfl));intro gb181 hg w7 hbox hb;have n0_:=Aside0.mk (blk_below (g:=gb179) (o:=.cells #[.int .i64 a0_0,.slice A0_1 l0_1.length c0_1,.slice A0_2 l0_2.length c0_2,.slice A0_3 l0_3.length c0_3] 24 (0,0)) qz46 hb);have n1_:=Aside0.mk (blk_below (g:=gb180) (o:=.cells #[.int .i64 0,.slice none 0 0,.slice none 0 0,.slice none 0 0] 29 (0,0)) qz77 hb);have n2_:=Aside0.mk (below_step qz60 hb);have n3_:=Aside0.mk (hbox);have n4_:=Aside0.mk ((by rw [hg];exact (below_size qz60):w.heap.size≤gb181));have n5_:=Aside0.mk ((by rw [hg];exact (below_size qz60):w.heap.size≤gb181));have n6_:=Aside0.mk ((by rw [hg];exact Nat.ne_of_lt (blk_lt (g:=gb179) (o:=.cells #[.int .i64 a0_0,.slice A0_1 l0_1.length c0_1,.slice A0_2 l0_2.length c0_2,.slice A0_3 l0_3.length c0_3] 24 (0,0)) qz46):gb179≠gb181));have n7_:=Aside0.mk ((by rw [hg];exact Nat.ne_of_gt (blk_lt (g:=gb179) (o:=.cells #[.int .i64 a0_0,.slice A0_1 l0_1.length c0_1,.slice A0_2 l0_2.length c0_2,.slice A0_3 l0_3.length c0_3] 24 (0,0)) qz46):gb181≠gb179));have n8_:=Aside0.mk ((by rw [hg];exact Nat.ne_of_lt (blk_lt (g:=gb180) (o:=.cells #[.int .i64 0,.slice none 0 0,.slice none 0 0,.slice none 0 0] 29 (0,0)) qz77):gb180≠gb181));have n9_:=Aside0.mk ((by rw [hg];exact Nat.ne_of_gt (blk_lt (g:=gb180) (o:=.cells #[.int .i64 0,.slice none 0 0,.slice none 0 0,.slice none 0 0] 29 (0,0)) qz77):gb181≠gb180));clear BK179 BK180 HB;have BK179:=n0_;have BK180:=n1_;have HB:=n2_;have BK181:=n3_;have GW181:=n4_;have GE181:=n5_;have NB179_181:=n6_;have NB181_179:=n7_;have NB180_181:=n8_;have NB181_180:=n9_;clear n0_ n1_ n2_ n3_ n4_ n5_ n6_ n7_ n8_ n9_ hb hbox hg;have hnb8:=NB179_180.out;have hnc8:=NB180_179.out;have hnb9:=NB179_181.out;have hnc9:=NB181_179.out;have hcz10_0:w7.cell? ⟨gb179,0,none⟩=some (.int .i64 a0_0):=(blk_cell BK179.out 0).trans rfl;have hcz10_1:w7.cell? ⟨gb179,1,none⟩=some (.slice A0_1 l0_1.length c0_1):=(blk_cell BK179.out 1).trans rfl;have hcz10_2:w7.cell? ⟨gb179,2,none⟩=some (.slice A0_2 l0_2.length c0_2):=(blk_cell BK179.out 2).trans rfl;have hcz10_3:w7.cell? ⟨gb179,3,none⟩=some (.slice A0_3 l0_3.length c0_3):=(blk_cell BK179.out 3).trans rfl;have hfz10_0:=blk_frozen BK179.out 0;have hfz10_1:=blk_frozen BK179.out 1;have hfz10_2:=blk_frozen BK179.out 2;have hfz10_3:=blk_frozen BK179.out 3;have hnb11:=NB181_180.out;have hnc11:=NB180_181.out;have hcz12_0:w7.cell? ⟨gb181,0,none⟩=some (.int .i64 0):=(blk_cell BK181.out 0).trans rfl;have hcz12_1:w7.cell? ⟨gb181,1,none⟩=some (.slice none 0 0):=(blk_cell BK181.out 1).trans rfl;have hcz12_2:w7.cell? ⟨gb181,2,none⟩=some (.slice none 0 0):=(blk_cell BK181.out 2).trans rfl;have hcz12_3:w7.cell? ⟨gb181,3,none⟩=some (.slice none 0 0):=(blk_cell BK181.out 3).trans rfl;have hfz12_0:=blk_frozen BK181.out 0;have hfz12_1:=blk_frozen BK181.out 1;have hfz12_2:=blk_frozen BK181.out 2;have hfz12_3:=blk_frozen BK181.out 3)|((with_reducible refine gate_callee (f:=20) rfl ?_);refine goesL_ (some 9) rfl rfl Tryd.func20 (by kernel_rfl) rfl #[.slice A0_1 l0_1.length c0_1] rfl qz2 ?_;(with_reducible refine (laws_toTrmCellS.calls k _ _ l0_1 t182 _ ?side1 ?side2 A2.out).mono ?_);(case side1=>exact Kd.C_below HR0_1.out qz23);(case side2=>exact HC0_1.out);rintro e w13 ⟨v183,rfl,ho0,hb⟩;refine ⟨_,rfl,?_⟩;have n0_:=Aside0.mk (Kd.R_lower ho0 (below_size qz23));have n1_:=Aside0.mk (blk_below (g:=gb179) (o:=.cells #[.int .i64 a0_0,.slice A0_1 l0_1.length c0_1,.slice A0_2 l0_2.length c0_2,.slice A0_3 l0_3.length c0_3] 24 (0,0)) qz59 hb);have n2_:=Aside0.mk (blk_below (g:=gb180) (o:=.cells #[.int .i64 0,.slice none 0 0,.slice none 0 0,.slice none 0 0] 29 (0,0)) qz58 hb);have n3_:=Aside0.mk (blk_below (g:=gb181) (o:=.cells #[.int .i64 a0_0,.slice none 0 0,.slice none 0 0,.slice none 0 0] 29 (0,0)) (by (with_reducible repeat (first|refine blk_drewN ?_ _|refine blk_drew ?_|refine blk_alloc ?_ _));refine blk_put (cs:=#[.int .i64 0,.slice none 0 0,.slice none 0 0,.slice none 0 0]) ?_ 0 _ rfl;(with_reducible repeat (first|refine blk_drewN ?_ _|refine blk_drew ?_|refine blk_alloc ?_ _));exact BK181.out) hb);have n4_:=Aside0.mk (below_step qz23 hb);clear BK179 BK180 BK181 HB;have HO184:=n0_;have BK179:=n1_;have BK180:=n2_;have BK181:=n3_;have HB:=n4_;clear n0_ n1_ n2_ n3_ n4_;(try clear hb);(try clear hb2);(try clear hk);(try clear hi);(try clear ho0);obtain ⟨Ao14,co14,eo14⟩:=Kd.R_slice HO184.out;subst eo14;have hcz15_0:w13.cell? ⟨gb181,0,none⟩=some (.int .i64 a0_0):=(blk_cell BK181.out 0).trans rfl;have hcz15_1:w13.cell? ⟨gb181,1,none⟩=some (.slice none 0 0):=(blk_cell BK181.out 1).trans rfl;have hcz15_2:w13.cell? ⟨gb181,2,none⟩=some (.slice none 0 0):=(blk_cell BK181.out 2).trans rfl;have hcz15_3:w13.cell? ⟨gb181,3,none⟩=some (.slice none 0 0):=(blk_cell BK181.out 3).trans rfl;have hfz15_0:=blk_frozen BK181.out 0;have hfz15_1:=blk_frozen BK181.out 1;have hfz15_2:=blk_frozen BK181.out 2;have hfz15_3:=blk_frozen BK181.out 3;have hcz16_0:w13.cell? ⟨gb179,0,none⟩=some (.int .i64 a0_0):=(blk_cell BK179.out 0).trans rfl;have hcz16_1:w13.cell? ⟨gb179,1,none⟩=some (.slice A0_1 l0_1.length c0_1):=(blk_cell BK179.out 1).trans rfl;have hcz16_2:w13.cell? ⟨gb179,2,none⟩=some (.slice A0_2 l0_2.length c0_2):=(blk_cell BK179.out 2).trans rfl;have hcz16_3:w13.cell? ⟨gb179,3,none⟩=some (.slice A0_3 l0_3.length c0_3):=(blk_cell BK179.out 3).trans rfl;have hfz16_0:=blk_frozen BK179.out 0;have hfz16_1:=blk_frozen BK179.out 1;have hfz16_2:=blk_frozen BK179.out 2;have hfz16_3:=blk_frozen BK179.out 3)|((with_reducible refine gate_callee (f:=20) rfl ?_);refine goesL_ (some 13) rfl rfl Tryd.func20 (by kernel_rfl) rfl #[.slice A0_2 l0_2.length c0_2] rfl qz2 ?_;(with_reducible refine (laws_toTrmCellS.calls k _ _ l0_2 t185 _ ?side1 ?side2 A3.out).mono ?_);(case side1=>exact Kd.C_below HR0_2.out qz23);(case side2=>exact HC0_2.out);rintro e w17 ⟨v186,rfl,ho0,hb⟩;refine ⟨_,rfl,?_⟩;have n0_:=Aside0.mk (Kd.R_elder' qz75 (Kd.R_base ho0) hb);have n1_:=Aside0.mk (Kd.R_lower (Kd.R_new' ho0 (Kd.R_lt qz75)) (below_size qz23));have n2_:=Aside0.mk (blk_below (g:=gb179) (o:=.cells #[.int .i64 a0_0,.slice A0_1 l0_1.length c0_1,.slice A0_2 l0_2.length c0_2,.slice A0_3 l0_3.length c0_3] 24 (0,0)) qz59 hb);have n3_:=Aside0.mk (blk_below (g:=gb180) (o:=.cells #[.int .i64 0,.slice none 0 0,.slice none 0 0,.slice none 0 0] 29 (0,0)) qz58 hb);have n4_:=Aside0.mk (blk_below (g:=gb181) (o:=.cells #[.int .i64 a0_0,.slice Ao14 t182.length co14,.slice none 0 0,.slice none 0 0] 29 (0,0)) (by (with_reducible repeat (first|refine blk_drewN ?_ _|refine blk_drew ?_|refine blk_alloc ?_ _));refine blk_put (cs:=#[.int .i64 a0_0,.slice none 0 0,.slice none 0 0,.slice none 0 0]) ?_ 1 _ rfl;(with_reducible repeat (first|refine blk_drewN ?_ _|refine blk_drew ?_|refine blk_alloc ?_ _));exact BK181.out) hb);have n5_:=Aside0.mk (below_step qz23 hb);clear HO184 BK179 BK180 BK181 HB;have HO184:=n0_;have HO187:=n1_;have BK179:=n2_;have BK180:=n3_;have BK181:=n4_;have HB:=n5_;clear n0_ n1_ n2_ n3_ n4_ n5_;(try clear hb);(try clear hb2);(try clear hk);(try clear hi);(try clear ho0);obtain ⟨Ao18,co18,eo18⟩:=Kd.R_slice HO187.out;subst eo18;have hcz19_0:w17.cell? ⟨gb181,0,none⟩=some (.int .i64 a0_0):=(blk_cell BK181.out 0).trans rfl;have hcz19_1:w17.cell? ⟨gb181,1,none⟩=some (.slice Ao14 t182.length co14):=(blk_cell BK181.out 1).trans rfl;have hcz19_2:w17.cell? ⟨gb181,2,none⟩=some (.slice none 0 0):=(blk_cell BK181.out 2).trans rfl;have hcz19_3:w17.cell? ⟨gb181,3,none⟩=some (.slice none 0 0):=(blk_cell BK181.out 3).trans rfl;have hfz19_0:=blk_frozen BK181.out 0;have hfz19_1:=blk_frozen BK181.out 1;have hfz19_2:=blk_frozen BK181.out 2;have hfz19_3:=blk_frozen BK181.out 3;have hcz20_0:w17.cell? ⟨gb179,0,none⟩=some (.int .i64 a0_0):=(blk_cell BK179.out 0).trans rfl;have hcz20_1:w17.cell? ⟨gb179,1,none⟩=some (.slice A0_1 l0_1.length c0_1):=(blk_cell BK179.out 1).trans rfl;have hcz20_2:w17.cell? ⟨gb179,2,none⟩=some (.slice A0_2 l0_2.length c0_2):=(blk_cell BK179.out 2).trans rfl;have hcz20_3:w17.cell? ⟨gb179,3,none⟩=some (.slice A0_3 l0_3.length c0_3):=(blk_cell BK179.out 3).trans rfl;have hfz20_0:=blk_frozen BK179.out 0;have hfz20_1:=blk_frozen BK179.out 1;have hfz20_2:=blk_frozen BK179.out 2;have hfz20_3:=blk_frozen BK179.out 3)|((with_reducible refine gate_callee (f:=20) rfl ?_);refine goesL_ (some 17) rfl rfl Tryd.func20 (by kernel_rfl) rfl #[.slice A0_3 l0_3.length c0_3] rfl qz2 ?_;(with_reducible refine (laws_toTrmCellS.calls k _ _ l0_3 t188 _ ?side1 ?side2 A4.out).mono ?_);(case side1=>exact Kd.C_below HR0_3.out qz23);(case side2=>exact HC0_3.out);rintro e w21 ⟨v189,rfl,ho0,hb⟩;refine ⟨_,rfl,?_⟩;have n0_:=Aside0.mk (Kd.R_elder' qz74 (Kd.R_base ho0) hb);have n1_:=Aside0.mk (Kd.R_elder' qz73 (Kd.R_base ho0) hb);have n2_:=Aside0.mk (Kd.R_lower (Kd.R_new' (Kd.R_new' ho0 (Kd.R_lt qz74)) (Kd.R_lt qz73)) (below_size qz23));have n3_:=Aside0.mk (blk_below (g:=gb179) (o:=.cells #[.int .i64 a0_0,.slice A0_1 l0_1.length c0_1,.slice A0_2 l0_2.length c0_2,.slice A0_3 l0_3.length c0_3] 24 (0,0)) qz59 hb);have n4_:=Aside0.mk (blk_below (g:=gb180) (o:=.cells #[.int .i64 0,.slice none 0 0,.slice none 0 0,.slice none 0 0] 29 (0,0)) qz58 hb);have n5_:=Aside0.mk (blk_below (g:=gb181) (o:=.cells #[.int .i64 a0_0,.slice Ao14 t182.length co14,.slice Ao18 t185.length co18,.slice none 0 0] 29 (0,0)) (by (with_reducible repeat (first|refine blk_drewN ?_ _|refine blk_drew ?_|refine blk_alloc ?_ _));refine blk_put (cs:=#[.int .i64 a0_0,.slice Ao14 t182.length co14,.slice none 0 0,.slice none 0 0]) ?_ 2 _ rfl;(with_reducible repeat (first|refine blk_drewN ?_ _|refine blk_drew ?_|refine blk_alloc ?_ _));exact BK181.out) hb);have n6_:=Aside0.mk (below_step qz23 hb);clear HO184 HO187 BK179 BK180 BK181 HB;have HO184:=n0_;have HO187:=n1_;have HO190:=n2_;have BK179:=n3_;have BK180:=n4_;have BK181:=n5_;have HB:=n6_;clear n0_ n1_ n2_ n3_ n4_ n5_ n6_;(try clear hb);(try clear hb2);(try clear hk);(try clear hi);(try clear ho0);obtain ⟨Ao22,co22,eo22⟩:=Kd.R_slice HO190.out;subst eo22;have hcz23_0:w21.cell? ⟨gb181,0,none⟩=some (.int .i64 a0_0):=(blk_cell BK181.out 0).trans rfl;have hcz23_1:w21.cell? ⟨gb181,1,none⟩=some (.slice Ao14 t182.length co14):=(blk_cell BK181.out 1).trans rfl;have hcz23_2:w21.cell? ⟨gb181,2,none⟩=some (.slice Ao18 t185.length co18):=(blk_cell BK181.out 2).trans rfl;have hcz23_3:w21.cell? ⟨gb181,3,none⟩=some (.slice none 0 0):=(blk_cell BK181.out 3).trans rfl;have hfz23_0:=blk_frozen BK181.out 0;have hfz23_1:=blk_frozen BK181.out 1;have hfz23_2:=blk_frozen BK181.out 2;have hfz23_3:=blk_frozen BK181.out 3;have hcz24_0:w21.cell? ⟨gb180,0,none⟩=some (.int .i64 0):=(blk_cell BK180.out 0).trans rfl;have hcz24_1:w21.cell? ⟨gb180,1,none⟩=some (.slice none 0 0):=(blk_cell BK180.out 1).trans rfl;have hcz24_2:w21.cell? ⟨gb180,2,none⟩=some (.slice none 0 0):=(blk_cell BK180.out 2).trans rfl;have hcz24_3:w21.cell? ⟨gb180,3,none⟩=some (.slice none 0 0):=(blk_cell BK180.out 3).trans rfl;have hfz24_0:=blk_frozen BK180.out 0;have hfz24_1:=blk_frozen BK180.out 1;have hfz24_2:=blk_frozen BK180.out 2;have hfz24_3:=blk_frozen BK180.out 3))
 refine bodyPost_ret (results_cell_row rfl _ _ gb180 29 #[.int .i64 a0_0,.slice Ao14 t182.length co14,.slice Ao18 t185.length co18,.slice Ao22 t188.length co22] (0,0) _ rfl (by (with_reducible repeat (first|refine blk_drewN ?_ _|refine blk_drew ?_|refine blk_alloc ?_ _));refine blk_put (cs:=#[.int .i64 a0_0,.slice Ao14 t182.length co14,.slice Ao18 t185.length co18,.slice none 0 0]) ?_ 3 _ rfl;(with_reducible repeat (first|refine blk_drewN ?_ _|refine blk_drew ?_|refine blk_alloc ?_ _));refine blk_put (cs:=#[.int .i64 a0_0,.slice Ao14 t182.length co14,.slice none 0 0,.slice none 0 0]) ?_ 2 _ rfl;(with_reducible repeat (first|refine blk_drewN ?_ _|refine blk_drew ?_|refine blk_alloc ?_ _));refine blk_put (cs:=#[.int .i64 a0_0,.slice none 0 0,.slice none 0 0,.slice none 0 0]) ?_ 1 _ rfl;(with_reducible repeat (first|refine blk_drewN ?_ _|refine blk_drew ?_|refine blk_alloc ?_ _));refine blk_put (cs:=#[.int .i64 0,.slice none 0 0,.slice none 0 0,.slice none 0 0]) ?_ 0 _ rfl;(with_reducible repeat (first|refine blk_drewN ?_ _|refine blk_drew ?_|refine blk_alloc ?_ _));refine blk_far ?_ NB180_181.out _;(with_reducible repeat (first|refine blk_drewN ?_ _|refine blk_drew ?_|refine blk_alloc ?_ _));exact BK180.out) Tryd.underlying29 rfl (by kernel_rfl)) rfl ?_
 exact ⟨_,_,_,qz4,by (with_reducible repeat (first|apply Kd.R_alloc|apply Kd.R_drewN|apply Kd.R_drew));exact Kd.R_mono (Kd.R_far (p:=⟨gb180,3,none⟩) (Kd.R_far (p:=⟨gb180,2,none⟩) (Kd.R_far (p:=⟨gb180,1,none⟩) (Kd.R_far (p:=⟨gb180,0,none⟩) (Kd.R_far (p:=⟨gb181,3,none⟩) (Kd.R_types (Kd.R_types HO184.out BK181.out (by decide)) BK180.out (by decide)) (fun _ hk=>hk.1.2) (.slice Ao22 t188.length co22)) (fun _ hk=>hk.2) (.int .i64 a0_0)) (fun _ hk=>hk.2) (.slice Ao14 t182.length co14)) (fun _ hk=>hk.2) (.slice Ao18 t185.length co18)) (fun _ hk=>hk.2) (.slice Ao22 t188.length co22)) (fun _ hk=>⟨hk.1.1.1.2,hk.1.1.2⟩),by (with_reducible repeat (first|apply Kd.R_alloc|apply Kd.R_drewN|apply Kd.R_drew));exact Kd.R_mono (Kd.R_far (p:=⟨gb180,3,none⟩) (Kd.R_far (p:=⟨gb180,2,none⟩) (Kd.R_far (p:=⟨gb180,1,none⟩) (Kd.R_far (p:=⟨gb180,0,none⟩) (Kd.R_far (p:=⟨gb181,3,none⟩) (Kd.R_types (Kd.R_types HO187.out BK181.out (by decide)) BK180.out (by decide)) (fun _ hk=>hk.1.2) (.slice Ao22 t188.length co22)) (fun _ hk=>hk.2) (.int .i64 a0_0)) (fun _ hk=>hk.2) (.slice Ao14 t182.length co14)) (fun _ hk=>hk.2) (.slice Ao18 t185.length co18)) (fun _ hk=>hk.2) (.slice Ao22 t188.length co22)) (fun _ hk=>⟨hk.1.1.1.2,hk.1.1.2⟩),by (with_reducible repeat (first|apply Kd.R_alloc|apply Kd.R_drewN|apply Kd.R_drew));exact Kd.R_mono (Kd.R_far (p:=⟨gb180,3,none⟩) (Kd.R_far (p:=⟨gb180,2,none⟩) (Kd.R_far (p:=⟨gb180,1,none⟩) (Kd.R_far (p:=⟨gb180,0,none⟩) (Kd.R_far (p:=⟨gb181,3,none⟩) (Kd.R_types (Kd.R_types HO190.out BK181.out (by decide)) BK180.out (by decide)) (fun _ hk=>hk.1.2) (.slice Ao22 t188.length co22)) (fun _ hk=>hk.2) (.int .i64 a0_0)) (fun _ hk=>hk.2) (.slice Ao14 t182.length co14)) (fun _ hk=>hk.2) (.slice Ao18 t185.length co18)) (fun _ hk=>hk.2) (.slice Ao22 t188.length co22)) (fun _ hk=>⟨hk.1.1.1.2,hk.1.1.2⟩),qz23⟩

/-! ### laws_eqTrmCell: function 48 -/
def laws_eqTrmCell.f (a0_0:Int) (a0_1:Int) (a0_2:ByteArray) (a1_0:Int) (a1_1:Int) (a1_2:ByteArray):Option (Bool):=if a0_0=a1_0 then (if a0_1=a1_1 then (if a0_2.toList=a1_2.toList then (some true) else (some false)) else (some false)) else (some false)
set_option maxHeartbeats 8000000 in
set_option maxRecDepth 100000 in
theorem laws_eqTrmCell.calls (a0_0:Int) (a0_1:Int) (a0_2:ByteArray) (a1_0:Int) (a1_1:Int) (a1_2:ByteArray) (r:Bool) (w:World) (h:laws_eqTrmCell.f a0_0 a0_1 a0_2 a1_0 a1_1 a1_2=some r) :
  Calls Tryd.prog 48 #[.agg #[.int .i64 a0_0,.int .i64 a0_1,.string a0_2],.agg #[.int .i64 a1_0,.int .i64 a1_1,.string a1_2]] w fun e w'=>e = .returned (.bool r)∧Below w.heap.size w w':=by
 have hu44:=Tryd.underlying44
 have HB:=Aside0.mk (Below.refl w.heap.size w)
 have H:(if a0_0=a1_0 then (if a0_1=a1_1 then (if a0_2.toList=a1_2.toList then (some true) else (some false)) else (some false)) else (some false))=some r:=h
 clear h
 by_cases c3:a0_0=a1_0
 ·rw [if_pos c3] at H
  have c3b0:(a0_0 == a1_0)=true:=beq_iff_eq.mpr c3
  have c3b1:(a0_0 != a1_0)=false:=bne_eq_false_iff_eq.mpr c3
  clear c3
  by_cases c4:a0_1=a1_1
  ·rw [if_pos c4] at H
   have c4b0:(a0_1 == a1_1)=true:=beq_iff_eq.mpr c4
   have c4b1:(a0_1 != a1_1)=false:=bne_eq_false_iff_eq.mpr c4
   clear c4
   by_cases c5:a0_2.toList=a1_2.toList
   ·rw [if_pos c5] at H
    have c5b0:(a0_2.toList == a1_2.toList)=true:=beq_iff_eq.mpr c5
    have c5b1:(a0_2.toList != a1_2.toList)=false:=bne_eq_false_iff_eq.mpr c5
    clear c5
    obtain rfl:=Option.some.inj H
    go_enter Tryd.func48,Tryd.ntmps48
    go_wp2_with (first|((with_reducible refine gate_dst (N:=2) rfl ?_);refine box_event ?hg (N:=2) ?hd (cs:=#[.int .i64 a0_0,.int .i64 a0_1,.string a0_2]) (t:=44) ?hr ?_;(case hd=>rfl);(case hg=>rfl);(case hr=>first|(go_simp;done)|(go_simp;rfl));intro gb232 hg w6 hbox hb;have n0_:=Aside0.mk (below_step qz1 hb);have n1_:=Aside0.mk (hbox);have n2_:=Aside0.mk ((by rw [hg];exact (below_size qz1):w.heap.size≤gb232));have n3_:=Aside0.mk ((by rw [hg];exact (below_size qz1):w.heap.size≤gb232));clear HB;have HB:=n0_;have BK232:=n1_;have GW232:=n2_;have GE232:=n3_;clear n0_ n1_ n2_ n3_ hb hbox hg)|((with_reducible refine gate_dst (N:=3) rfl ?_);refine box_event ?hg (N:=3) ?hd (cs:=#[.int .i64 a1_0,.int .i64 a1_1,.string a1_2]) (t:=44) ?hr ?_;(case hd=>rfl);(case hg=>rfl);(case hr=>first|(go_simp;done)|(go_simp;rfl));intro gb233 hg w7 hbox hb;have n0_:=Aside0.mk (blk_below (g:=gb232) (o:=.cells #[.int .i64 a0_0,.int .i64 a0_1,.string a0_2] 44 (0,0)) qz32 hb);have n1_:=Aside0.mk (below_step qz27 hb);have n2_:=Aside0.mk (hbox);have n3_:=Aside0.mk ((by rw [hg];exact (below_size qz27):w.heap.size≤gb233));have n4_:=Aside0.mk ((by rw [hg];exact (below_size qz27):w.heap.size≤gb233));have n5_:=Aside0.mk ((by rw [hg];exact Nat.ne_of_lt (blk_lt (g:=gb232) (o:=.cells #[.int .i64 a0_0,.int .i64 a0_1,.string a0_2] 44 (0,0)) qz32):gb232≠gb233));have n6_:=Aside0.mk ((by rw [hg];exact Nat.ne_of_gt (blk_lt (g:=gb232) (o:=.cells #[.int .i64 a0_0,.int .i64 a0_1,.string a0_2] 44 (0,0)) qz32):gb233≠gb232));clear BK232 HB;have BK232:=n0_;have HB:=n1_;have BK233:=n2_;have GW233:=n3_;have GE233:=n4_;have NB232_233:=n5_;have NB233_232:=n6_;clear n0_ n1_ n2_ n3_ n4_ n5_ n6_ hb hbox hg;have hnb8:=NB232_233.out;have hnc8:=NB233_232.out;have hcz9_0:w7.cell? ⟨gb232,0,none⟩=some (.int .i64 a0_0):=(blk_cell BK232.out 0).trans rfl;have hcz9_1:w7.cell? ⟨gb232,1,none⟩=some (.int .i64 a0_1):=(blk_cell BK232.out 1).trans rfl;have hcz9_2:w7.cell? ⟨gb232,2,none⟩=some (.string a0_2):=(blk_cell BK232.out 2).trans rfl;have hfz9_0:=blk_frozen BK232.out 0;have hfz9_1:=blk_frozen BK232.out 1;have hfz9_2:=blk_frozen BK232.out 2;have hcz10_0:w7.cell? ⟨gb233,0,none⟩=some (.int .i64 a1_0):=(blk_cell BK233.out 0).trans rfl;have hcz10_1:w7.cell? ⟨gb233,1,none⟩=some (.int .i64 a1_1):=(blk_cell BK233.out 1).trans rfl;have hcz10_2:w7.cell? ⟨gb233,2,none⟩=some (.string a1_2):=(blk_cell BK233.out 2).trans rfl;have hfz10_0:=blk_frozen BK233.out 0;have hfz10_1:=blk_frozen BK233.out 1;have hfz10_2:=blk_frozen BK233.out 2))
    go_ret
    exact ⟨qz4,qz45⟩
   ·rw [if_neg c5] at H
    have c5b0:(a0_2.toList == a1_2.toList)=false:=beq_eq_false_iff_ne.mpr c5
    have c5b1:(a0_2.toList != a1_2.toList)=true:=bne_iff_ne.mpr c5
    obtain rfl:=Option.some.inj H
    go_enter Tryd.func48,Tryd.ntmps48
    go_wp2_with (first|((with_reducible refine gate_dst (N:=2) rfl ?_);refine box_event ?hg (N:=2) ?hd (cs:=#[.int .i64 a0_0,.int .i64 a0_1,.string a0_2]) (t:=44) ?hr ?_;(case hd=>rfl);(case hg=>rfl);(case hr=>first|(go_simp;done)|(go_simp;rfl));intro gb232 hg w11 hbox hb;have n0_:=Aside0.mk (below_step qz1 hb);have n1_:=Aside0.mk (hbox);have n2_:=Aside0.mk ((by rw [hg];exact (below_size qz1):w.heap.size≤gb232));have n3_:=Aside0.mk ((by rw [hg];exact (below_size qz1):w.heap.size≤gb232));clear HB;have HB:=n0_;have BK232:=n1_;have GW232:=n2_;have GE232:=n3_;clear n0_ n1_ n2_ n3_ hb hbox hg)|((with_reducible refine gate_dst (N:=3) rfl ?_);refine box_event ?hg (N:=3) ?hd (cs:=#[.int .i64 a1_0,.int .i64 a1_1,.string a1_2]) (t:=44) ?hr ?_;(case hd=>rfl);(case hg=>rfl);(case hr=>first|(go_simp;done)|(go_simp;rfl));intro gb233 hg w12 hbox hb;have n0_:=Aside0.mk (blk_below (g:=gb232) (o:=.cells #[.int .i64 a0_0,.int .i64 a0_1,.string a0_2] 44 (0,0)) qz32 hb);have n1_:=Aside0.mk (below_step qz27 hb);have n2_:=Aside0.mk (hbox);have n3_:=Aside0.mk ((by rw [hg];exact (below_size qz27):w.heap.size≤gb233));have n4_:=Aside0.mk ((by rw [hg];exact (below_size qz27):w.heap.size≤gb233));have n5_:=Aside0.mk ((by rw [hg];exact Nat.ne_of_lt (blk_lt (g:=gb232) (o:=.cells #[.int .i64 a0_0,.int .i64 a0_1,.string a0_2] 44 (0,0)) qz32):gb232≠gb233));have n6_:=Aside0.mk ((by rw [hg];exact Nat.ne_of_gt (blk_lt (g:=gb232) (o:=.cells #[.int .i64 a0_0,.int .i64 a0_1,.string a0_2] 44 (0,0)) qz32):gb233≠gb232));clear BK232 HB;have BK232:=n0_;have HB:=n1_;have BK233:=n2_;have GW233:=n3_;have GE233:=n4_;have NB232_233:=n5_;have NB233_232:=n6_;clear n0_ n1_ n2_ n3_ n4_ n5_ n6_ hb hbox hg;have hnb13:=NB232_233.out;have hnc13:=NB233_232.out;have hcz14_0:w12.cell? ⟨gb232,0,none⟩=some (.int .i64 a0_0):=(blk_cell BK232.out 0).trans rfl;have hcz14_1:w12.cell? ⟨gb232,1,none⟩=some (.int .i64 a0_1):=(blk_cell BK232.out 1).trans rfl;have hcz14_2:w12.cell? ⟨gb232,2,none⟩=some (.string a0_2):=(blk_cell BK232.out 2).trans rfl;have hfz14_0:=blk_frozen BK232.out 0;have hfz14_1:=blk_frozen BK232.out 1;have hfz14_2:=blk_frozen BK232.out 2;have hcz15_0:w12.cell? ⟨gb233,0,none⟩=some (.int .i64 a1_0):=(blk_cell BK233.out 0).trans rfl;have hcz15_1:w12.cell? ⟨gb233,1,none⟩=some (.int .i64 a1_1):=(blk_cell BK233.out 1).trans rfl;have hcz15_2:w12.cell? ⟨gb233,2,none⟩=some (.string a1_2):=(blk_cell BK233.out 2).trans rfl;have hfz15_0:=blk_frozen BK233.out 0;have hfz15_1:=blk_frozen BK233.out 1;have hfz15_2:=blk_frozen BK233.out 2))
    go_ret
    exact ⟨qz4,qz45⟩
  ·rw [if_neg c4] at H
   have c4b0:(a0_1 == a1_1)=false:=beq_eq_false_iff_ne.mpr c4
   have c4b1:(a0_1 != a1_1)=true:=bne_iff_ne.mpr c4
   obtain rfl:=Option.some.inj H
   go_enter Tryd.func48,Tryd.ntmps48
   go_wp2_with (first|((with_reducible refine gate_dst (N:=2) rfl ?_);refine box_event ?hg (N:=2) ?hd (cs:=#[.int .i64 a0_0,.int .i64 a0_1,.string a0_2]) (t:=44) ?hr ?_;(case hd=>rfl);(case hg=>rfl);(case hr=>first|(go_simp;done)|(go_simp;rfl));intro gb232 hg w16 hbox hb;have n0_:=Aside0.mk (below_step qz1 hb);have n1_:=Aside0.mk (hbox);have n2_:=Aside0.mk ((by rw [hg];exact (below_size qz1):w.heap.size≤gb232));have n3_:=Aside0.mk ((by rw [hg];exact (below_size qz1):w.heap.size≤gb232));clear HB;have HB:=n0_;have BK232:=n1_;have GW232:=n2_;have GE232:=n3_;clear n0_ n1_ n2_ n3_ hb hbox hg)|((with_reducible refine gate_dst (N:=3) rfl ?_);refine box_event ?hg (N:=3) ?hd (cs:=#[.int .i64 a1_0,.int .i64 a1_1,.string a1_2]) (t:=44) ?hr ?_;(case hd=>rfl);(case hg=>rfl);(case hr=>first|(go_simp;done)|(go_simp;rfl));intro gb233 hg w17 hbox hb;have n0_:=Aside0.mk (blk_below (g:=gb232) (o:=.cells #[.int .i64 a0_0,.int .i64 a0_1,.string a0_2] 44 (0,0)) qz32 hb);have n1_:=Aside0.mk (below_step qz27 hb);have n2_:=Aside0.mk (hbox);have n3_:=Aside0.mk ((by rw [hg];exact (below_size qz27):w.heap.size≤gb233));have n4_:=Aside0.mk ((by rw [hg];exact (below_size qz27):w.heap.size≤gb233));have n5_:=Aside0.mk ((by rw [hg];exact Nat.ne_of_lt (blk_lt (g:=gb232) (o:=.cells #[.int .i64 a0_0,.int .i64 a0_1,.string a0_2] 44 (0,0)) qz32):gb232≠gb233));have n6_:=Aside0.mk ((by rw [hg];exact Nat.ne_of_gt (blk_lt (g:=gb232) (o:=.cells #[.int .i64 a0_0,.int .i64 a0_1,.string a0_2] 44 (0,0)) qz32):gb233≠gb232));clear BK232 HB;have BK232:=n0_;have HB:=n1_;have BK233:=n2_;have GW233:=n3_;have GE233:=n4_;have NB232_233:=n5_;have NB233_232:=n6_;clear n0_ n1_ n2_ n3_ n4_ n5_ n6_ hb hbox hg;have hnb18:=NB232_233.out;have hnc18:=NB233_232.out;have hcz19_0:w17.cell? ⟨gb232,0,none⟩=some (.int .i64 a0_0):=(blk_cell BK232.out 0).trans rfl;have hcz19_1:w17.cell? ⟨gb232,1,none⟩=some (.int .i64 a0_1):=(blk_cell BK232.out 1).trans rfl;have hcz19_2:w17.cell? ⟨gb232,2,none⟩=some (.string a0_2):=(blk_cell BK232.out 2).trans rfl;have hfz19_0:=blk_frozen BK232.out 0;have hfz19_1:=blk_frozen BK232.out 1;have hfz19_2:=blk_frozen BK232.out 2;have hcz20_0:w17.cell? ⟨gb233,0,none⟩=some (.int .i64 a1_0):=(blk_cell BK233.out 0).trans rfl;have hcz20_1:w17.cell? ⟨gb233,1,none⟩=some (.int .i64 a1_1):=(blk_cell BK233.out 1).trans rfl;have hcz20_2:w17.cell? ⟨gb233,2,none⟩=some (.string a1_2):=(blk_cell BK233.out 2).trans rfl;have hfz20_0:=blk_frozen BK233.out 0;have hfz20_1:=blk_frozen BK233.out 1;have hfz20_2:=blk_frozen BK233.out 2))
   go_ret
   exact ⟨qz4,qz45⟩
 ·rw [if_neg c3] at H
  have c3b0:(a0_0 == a1_0)=false:=beq_eq_false_iff_ne.mpr c3
  have c3b1:(a0_0 != a1_0)=true:=bne_iff_ne.mpr c3
  obtain rfl:=Option.some.inj H
  go_enter Tryd.func48,Tryd.ntmps48
  go_wp2_with (first|((with_reducible refine gate_dst (N:=2) rfl ?_);refine box_event ?hg (N:=2) ?hd (cs:=#[.int .i64 a0_0,.int .i64 a0_1,.string a0_2]) (t:=44) ?hr ?_;(case hd=>rfl);(case hg=>rfl);(case hr=>first|(go_simp;done)|(go_simp;rfl));intro gb232 hg w21 hbox hb;have n0_:=Aside0.mk (below_step qz1 hb);have n1_:=Aside0.mk (hbox);have n2_:=Aside0.mk ((by rw [hg];exact (below_size qz1):w.heap.size≤gb232));have n3_:=Aside0.mk ((by rw [hg];exact (below_size qz1):w.heap.size≤gb232));clear HB;have HB:=n0_;have BK232:=n1_;have GW232:=n2_;have GE232:=n3_;clear n0_ n1_ n2_ n3_ hb hbox hg)|((with_reducible refine gate_dst (N:=3) rfl ?_);refine box_event ?hg (N:=3) ?hd (cs:=#[.int .i64 a1_0,.int .i64 a1_1,.string a1_2]) (t:=44) ?hr ?_;(case hd=>rfl);(case hg=>rfl);(case hr=>first|(go_simp;done)|(go_simp;rfl));intro gb233 hg w22 hbox hb;have n0_:=Aside0.mk (blk_below (g:=gb232) (o:=.cells #[.int .i64 a0_0,.int .i64 a0_1,.string a0_2] 44 (0,0)) qz32 hb);have n1_:=Aside0.mk (below_step qz27 hb);have n2_:=Aside0.mk (hbox);have n3_:=Aside0.mk ((by rw [hg];exact (below_size qz27):w.heap.size≤gb233));have n4_:=Aside0.mk ((by rw [hg];exact (below_size qz27):w.heap.size≤gb233));have n5_:=Aside0.mk ((by rw [hg];exact Nat.ne_of_lt (blk_lt (g:=gb232) (o:=.cells #[.int .i64 a0_0,.int .i64 a0_1,.string a0_2] 44 (0,0)) qz32):gb232≠gb233));have n6_:=Aside0.mk ((by rw [hg];exact Nat.ne_of_gt (blk_lt (g:=gb232) (o:=.cells #[.int .i64 a0_0,.int .i64 a0_1,.string a0_2] 44 (0,0)) qz32):gb233≠gb232));clear BK232 HB;have BK232:=n0_;have HB:=n1_;have BK233:=n2_;have GW233:=n3_;have GE233:=n4_;have NB232_233:=n5_;have NB233_232:=n6_;clear n0_ n1_ n2_ n3_ n4_ n5_ n6_ hb hbox hg;have hnb23:=NB232_233.out;have hnc23:=NB233_232.out;have hcz24_0:w22.cell? ⟨gb232,0,none⟩=some (.int .i64 a0_0):=(blk_cell BK232.out 0).trans rfl;have hcz24_1:w22.cell? ⟨gb232,1,none⟩=some (.int .i64 a0_1):=(blk_cell BK232.out 1).trans rfl;have hcz24_2:w22.cell? ⟨gb232,2,none⟩=some (.string a0_2):=(blk_cell BK232.out 2).trans rfl;have hfz24_0:=blk_frozen BK232.out 0;have hfz24_1:=blk_frozen BK232.out 1;have hfz24_2:=blk_frozen BK232.out 2;have hcz25_0:w22.cell? ⟨gb233,0,none⟩=some (.int .i64 a1_0):=(blk_cell BK233.out 0).trans rfl;have hcz25_1:w22.cell? ⟨gb233,1,none⟩=some (.int .i64 a1_1):=(blk_cell BK233.out 1).trans rfl;have hcz25_2:w22.cell? ⟨gb233,2,none⟩=some (.string a1_2):=(blk_cell BK233.out 2).trans rfl;have hfz25_0:=blk_frozen BK233.out 0;have hfz25_1:=blk_frozen BK233.out 1;have hfz25_2:=blk_frozen BK233.out 2))
  go_ret
  exact ⟨qz4,qz45⟩

end Go.Proofs.YtlhniagacegbeaaDoor.P
