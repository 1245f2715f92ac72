/- Contracts of functions of the program: each as a Lean function, and that its call does what that says; printed by cprint.py (this session) over print.py of the kit. Conditions: the hypotheses of each theorem. -/
import Derived.Test.YtlhniagacegbeaaGreatDoorVZ
import Derived.Test.YtlhniagacegbeaaGreatDoorP0
namespace Go.Proofs.YtlhniagacegbeaaGreatDoor.P
open Go.RowKit Go.Proofs.YtlhniagacegbeaaGreatDoorW.PrintWords Go.Proofs.YtlhniagacegbeaaGreatDoorW.PrintLast Go.Proofs.YtlhniagacegbeaaGreatDoorW.PrintMore
attribute [local go_sem] max2_int min2_int max_two min_two max_three min_three max_four min_four   -- for this text's walks alone
set_option linter.unusedVariables false
set_option linter.unusedSimpArgs false

/-! ### laws_eqTrmCell: function 54 -/
def laws_eqTrmCell.f (a0_0:Int) (a0_1:Int) (a0_2:ByteArray) (a1_0:Int) (a1_1:Int) (a1_2:ByteArray):Option (Bool):=if a0_0=a1_0 then (if a0_1=a1_1 then (if a0_2.toList=a1_2.toList then (some true) else (some false)) else (some false)) else (some false)
set_option maxHeartbeats 8000000 in
set_option maxRecDepth 100000 in
theorem laws_eqTrmCell.calls (a0_0:Int) (a0_1:Int) (a0_2:ByteArray) (a1_0:Int) (a1_1:Int) (a1_2:ByteArray) (r:Bool) (w:World) (h:laws_eqTrmCell.f a0_0 a0_1 a0_2 a1_0 a1_1 a1_2=some r) :
  Calls Tryz.prog 54 #[.agg #[.int .i64 a0_0,.int .i64 a0_1,.string a0_2],.agg #[.int .i64 a1_0,.int .i64 a1_1,.string a1_2]] w fun e w'=>e = .returned (.bool r)∧Below w.heap.size w w':=by
 have hu63:=Tryz.underlying63
 have HB:=Aside0.mk (Below.refl w.heap.size w)
 have H:(if a0_0=a1_0 then (if a0_1=a1_1 then (if a0_2.toList=a1_2.toList then (some true) else (some false)) else (some false)) else (some false))=some r:=h
 clear h
 by_cases c3:a0_0=a1_0
 ·rw [if_pos c3] at H
  have c3b0:(a0_0 == a1_0)=true:=beq_iff_eq.mpr c3
  have c3b1:(a0_0 != a1_0)=false:=bne_eq_false_iff_eq.mpr c3
  clear c3
  by_cases c4:a0_1=a1_1
  ·rw [if_pos c4] at H
   have c4b0:(a0_1 == a1_1)=true:=beq_iff_eq.mpr c4
   have c4b1:(a0_1 != a1_1)=false:=bne_eq_false_iff_eq.mpr c4
   clear c4
   by_cases c5:a0_2.toList=a1_2.toList
   ·rw [if_pos c5] at H
    have c5b0:(a0_2.toList == a1_2.toList)=true:=beq_iff_eq.mpr c5
    have c5b1:(a0_2.toList != a1_2.toList)=false:=bne_eq_false_iff_eq.mpr c5
    clear c5
    obtain rfl:=Option.some.inj H
    go_enter Tryz.func54,Tryz.ntmps54
    go_wp2_with (first|((with_reducible refine gate_dst (N:=2) rfl ?_);refine box_event ?hg (N:=2) ?hd (cs:=#[.int .i64 a0_0,.int .i64 a0_1,.string a0_2]) (t:=63) ?hr ?_;(case hd=>rfl);(case hg=>rfl);(case hr=>first|(go_simp;done)|(go_simp;rfl));intro gb277 hg w6 hbox hb;have n0_:=Aside0.mk (below_step qz1 hb);have n1_:=Aside0.mk (hbox);have n2_:=Aside0.mk ((by rw [hg];exact (below_size qz1):w.heap.size≤gb277));have n3_:=Aside0.mk ((by rw [hg];exact (below_size qz1):w.heap.size≤gb277));clear HB;have HB:=n0_;have BK277:=n1_;have GW277:=n2_;have GE277:=n3_;clear n0_ n1_ n2_ n3_ hb hbox hg)|((with_reducible refine gate_dst (N:=3) rfl ?_);refine box_event ?hg (N:=3) ?hd (cs:=#[.int .i64 a1_0,.int .i64 a1_1,.string a1_2]) (t:=63) ?hr ?_;(case hd=>rfl);(case hg=>rfl);(case hr=>first|(go_simp;done)|(go_simp;rfl));intro gb278 hg w7 hbox hb;have n0_:=Aside0.mk (blk_below (g:=gb277) (o:=.cells #[.int .i64 a0_0,.int .i64 a0_1,.string a0_2] 63 (0,0)) qz54 hb);have n1_:=Aside0.mk (below_step qz32 hb);have n2_:=Aside0.mk (hbox);have n3_:=Aside0.mk ((by rw [hg];exact (below_size qz32):w.heap.size≤gb278));have n4_:=Aside0.mk ((by rw [hg];exact (below_size qz32):w.heap.size≤gb278));have n5_:=Aside0.mk ((by rw [hg];exact Nat.ne_of_lt (blk_lt (g:=gb277) (o:=.cells #[.int .i64 a0_0,.int .i64 a0_1,.string a0_2] 63 (0,0)) qz54):gb277≠gb278));have n6_:=Aside0.mk ((by rw [hg];exact Nat.ne_of_gt (blk_lt (g:=gb277) (o:=.cells #[.int .i64 a0_0,.int .i64 a0_1,.string a0_2] 63 (0,0)) qz54):gb278≠gb277));clear BK277 HB;have BK277:=n0_;have HB:=n1_;have BK278:=n2_;have GW278:=n3_;have GE278:=n4_;have NB277_278:=n5_;have NB278_277:=n6_;clear n0_ n1_ n2_ n3_ n4_ n5_ n6_ hb hbox hg;have hnb8:=NB277_278.out;have hnc8:=NB278_277.out;have hcz9_0:w7.cell? ⟨gb277,0,none⟩=some (.int .i64 a0_0):=(blk_cell BK277.out 0).trans rfl;have hcz9_1:w7.cell? ⟨gb277,1,none⟩=some (.int .i64 a0_1):=(blk_cell BK277.out 1).trans rfl;have hcz9_2:w7.cell? ⟨gb277,2,none⟩=some (.string a0_2):=(blk_cell BK277.out 2).trans rfl;have hfz9_0:=blk_frozen BK277.out 0;have hfz9_1:=blk_frozen BK277.out 1;have hfz9_2:=blk_frozen BK277.out 2;have hcz10_0:w7.cell? ⟨gb278,0,none⟩=some (.int .i64 a1_0):=(blk_cell BK278.out 0).trans rfl;have hcz10_1:w7.cell? ⟨gb278,1,none⟩=some (.int .i64 a1_1):=(blk_cell BK278.out 1).trans rfl;have hcz10_2:w7.cell? ⟨gb278,2,none⟩=some (.string a1_2):=(blk_cell BK278.out 2).trans rfl;have hfz10_0:=blk_frozen BK278.out 0;have hfz10_1:=blk_frozen BK278.out 1;have hfz10_2:=blk_frozen BK278.out 2))
    go_ret
    exact ⟨qz4,qz101⟩
   ·rw [if_neg c5] at H
    have c5b0:(a0_2.toList == a1_2.toList)=false:=beq_eq_false_iff_ne.mpr c5
    have c5b1:(a0_2.toList != a1_2.toList)=true:=bne_iff_ne.mpr c5
    obtain rfl:=Option.some.inj H
    go_enter Tryz.func54,Tryz.ntmps54
    go_wp2_with (first|((with_reducible refine gate_dst (N:=2) rfl ?_);refine box_event ?hg (N:=2) ?hd (cs:=#[.int .i64 a0_0,.int .i64 a0_1,.string a0_2]) (t:=63) ?hr ?_;(case hd=>rfl);(case hg=>rfl);(case hr=>first|(go_simp;done)|(go_simp;rfl));intro gb277 hg w11 hbox hb;have n0_:=Aside0.mk (below_step qz1 hb);have n1_:=Aside0.mk (hbox);have n2_:=Aside0.mk ((by rw [hg];exact (below_size qz1):w.heap.size≤gb277));have n3_:=Aside0.mk ((by rw [hg];exact (below_size qz1):w.heap.size≤gb277));clear HB;have HB:=n0_;have BK277:=n1_;have GW277:=n2_;have GE277:=n3_;clear n0_ n1_ n2_ n3_ hb hbox hg)|((with_reducible refine gate_dst (N:=3) rfl ?_);refine box_event ?hg (N:=3) ?hd (cs:=#[.int .i64 a1_0,.int .i64 a1_1,.string a1_2]) (t:=63) ?hr ?_;(case hd=>rfl);(case hg=>rfl);(case hr=>first|(go_simp;done)|(go_simp;rfl));intro gb278 hg w12 hbox hb;have n0_:=Aside0.mk (blk_below (g:=gb277) (o:=.cells #[.int .i64 a0_0,.int .i64 a0_1,.string a0_2] 63 (0,0)) qz54 hb);have n1_:=Aside0.mk (below_step qz32 hb);have n2_:=Aside0.mk (hbox);have n3_:=Aside0.mk ((by rw [hg];exact (below_size qz32):w.heap.size≤gb278));have n4_:=Aside0.mk ((by rw [hg];exact (below_size qz32):w.heap.size≤gb278));have n5_:=Aside0.mk ((by rw [hg];exact Nat.ne_of_lt (blk_lt (g:=gb277) (o:=.cells #[.int .i64 a0_0,.int .i64 a0_1,.string a0_2] 63 (0,0)) qz54):gb277≠gb278));have n6_:=Aside0.mk ((by rw [hg];exact Nat.ne_of_gt (blk_lt (g:=gb277) (o:=.cells #[.int .i64 a0_0,.int .i64 a0_1,.string a0_2] 63 (0,0)) qz54):gb278≠gb277));clear BK277 HB;have BK277:=n0_;have HB:=n1_;have BK278:=n2_;have GW278:=n3_;have GE278:=n4_;have NB277_278:=n5_;have NB278_277:=n6_;clear n0_ n1_ n2_ n3_ n4_ n5_ n6_ hb hbox hg;have hnb13:=NB277_278.out;have hnc13:=NB278_277.out;have hcz14_0:w12.cell? ⟨gb277,0,none⟩=some (.int .i64 a0_0):=(blk_cell BK277.out 0).trans rfl;have hcz14_1:w12.cell? ⟨gb277,1,none⟩=some (.int .i64 a0_1):=(blk_cell BK277.out 1).trans rfl;have hcz14_2:w12.cell? ⟨gb277,2,none⟩=some (.string a0_2):=(blk_cell BK277.out 2).trans rfl;have hfz14_0:=blk_frozen BK277.out 0;have hfz14_1:=blk_frozen BK277.out 1;have hfz14_2:=blk_frozen BK277.out 2;have hcz15_0:w12.cell? ⟨gb278,0,none⟩=some (.int .i64 a1_0):=(blk_cell BK278.out 0).trans rfl;have hcz15_1:w12.cell? ⟨gb278,1,none⟩=some (.int .i64 a1_1):=(blk_cell BK278.out 1).trans rfl;have hcz15_2:w12.cell? ⟨gb278,2,none⟩=some (.string a1_2):=(blk_cell BK278.out 2).trans rfl;have hfz15_0:=blk_frozen BK278.out 0;have hfz15_1:=blk_frozen BK278.out 1;have hfz15_2:=blk_frozen BK278.out 2))
    go_ret
    exact ⟨qz4,qz101⟩
  ·rw [if_neg c4] at H
   have c4b0:(a0_1 == a1_1)=false:=beq_eq_false_iff_ne.mpr c4
   have c4b1:(a0_1 != a1_1)=true:=bne_iff_ne.mpr c4
   obtain rfl:=Option.some.inj H
   go_enter Tryz.func54,Tryz.ntmps54
   go_wp2_with (first|((with_reducible refine gate_dst (N:=2) rfl ?_);refine box_event ?hg (N:=2) ?hd (cs:=#[.int .i64 a0_0,.int .i64 a0_1,.string a0_2]) (t:=63) ?hr ?_;(case hd=>rfl);(case hg=>rfl);(case hr=>first|(go_simp;done)|(go_simp;rfl));intro gb277 hg w16 hbox hb;have n0_:=Aside0.mk (below_step qz1 hb);have n1_:=Aside0.mk (hbox);have n2_:=Aside0.mk ((by rw [hg];exact (below_size qz1):w.heap.size≤gb277));have n3_:=Aside0.mk ((by rw [hg];exact (below_size qz1):w.heap.size≤gb277));clear HB;have HB:=n0_;have BK277:=n1_;have GW277:=n2_;have GE277:=n3_;clear n0_ n1_ n2_ n3_ hb hbox hg)|((with_reducible refine gate_dst (N:=3) rfl ?_);refine box_event ?hg (N:=3) ?hd (cs:=#[.int .i64 a1_0,.int .i64 a1_1,.string a1_2]) (t:=63) ?hr ?_;(case hd=>rfl);(case hg=>rfl);(case hr=>first|(go_simp;done)|(go_simp;rfl));intro gb278 hg w17 hbox hb;have n0_:=Aside0.mk (blk_below (g:=gb277) (o:=.cells #[.int .i64 a0_0,.int .i64 a0_1,.string a0_2] 63 (0,0)) qz54 hb);have n1_:=Aside0.mk (below_step qz32 hb);have n2_:=Aside0.mk (hbox);have n3_:=Aside0.mk ((by rw [hg];exact (below_size qz32):w.heap.size≤gb278));have n4_:=Aside0.mk ((by rw [hg];exact (below_size qz32):w.heap.size≤gb278));have n5_:=Aside0.mk ((by rw [hg];exact Nat.ne_of_lt (blk_lt (g:=gb277) (o:=.cells #[.int .i64 a0_0,.int .i64 a0_1,.string a0_2] 63 (0,0)) qz54):gb277≠gb278));have n6_:=Aside0.mk ((by rw [hg];exact Nat.ne_of_gt (blk_lt (g:=gb277) (o:=.cells #[.int .i64 a0_0,.int .i64 a0_1,.string a0_2] 63 (0,0)) qz54):gb278≠gb277));clear BK277 HB;have BK277:=n0_;have HB:=n1_;have BK278:=n2_;have GW278:=n3_;have GE278:=n4_;have NB277_278:=n5_;have NB278_277:=n6_;clear n0_ n1_ n2_ n3_ n4_ n5_ n6_ hb hbox hg;have hnb18:=NB277_278.out;have hnc18:=NB278_277.out;have hcz19_0:w17.cell? ⟨gb277,0,none⟩=some (.int .i64 a0_0):=(blk_cell BK277.out 0).trans rfl;have hcz19_1:w17.cell? ⟨gb277,1,none⟩=some (.int .i64 a0_1):=(blk_cell BK277.out 1).trans rfl;have hcz19_2:w17.cell? ⟨gb277,2,none⟩=some (.string a0_2):=(blk_cell BK277.out 2).trans rfl;have hfz19_0:=blk_frozen BK277.out 0;have hfz19_1:=blk_frozen BK277.out 1;have hfz19_2:=blk_frozen BK277.out 2;have hcz20_0:w17.cell? ⟨gb278,0,none⟩=some (.int .i64 a1_0):=(blk_cell BK278.out 0).trans rfl;have hcz20_1:w17.cell? ⟨gb278,1,none⟩=some (.int .i64 a1_1):=(blk_cell BK278.out 1).trans rfl;have hcz20_2:w17.cell? ⟨gb278,2,none⟩=some (.string a1_2):=(blk_cell BK278.out 2).trans rfl;have hfz20_0:=blk_frozen BK278.out 0;have hfz20_1:=blk_frozen BK278.out 1;have hfz20_2:=blk_frozen BK278.out 2))
   go_ret
   exact ⟨qz4,qz101⟩
 ·rw [if_neg c3] at H
  have c3b0:(a0_0 == a1_0)=false:=beq_eq_false_iff_ne.mpr c3
  have c3b1:(a0_0 != a1_0)=true:=bne_iff_ne.mpr c3
  obtain rfl:=Option.some.inj H
  go_enter Tryz.func54,Tryz.ntmps54
  go_wp2_with (first|((with_reducible refine gate_dst (N:=2) rfl ?_);refine box_event ?hg (N:=2) ?hd (cs:=#[.int .i64 a0_0,.int .i64 a0_1,.string a0_2]) (t:=63) ?hr ?_;(case hd=>rfl);(case hg=>rfl);(case hr=>first|(go_simp;done)|(go_simp;rfl));intro gb277 hg w21 hbox hb;have n0_:=Aside0.mk (below_step qz1 hb);have n1_:=Aside0.mk (hbox);have n2_:=Aside0.mk ((by rw [hg];exact (below_size qz1):w.heap.size≤gb277));have n3_:=Aside0.mk ((by rw [hg];exact (below_size qz1):w.heap.size≤gb277));clear HB;have HB:=n0_;have BK277:=n1_;have GW277:=n2_;have GE277:=n3_;clear n0_ n1_ n2_ n3_ hb hbox hg)|((with_reducible refine gate_dst (N:=3) rfl ?_);refine box_event ?hg (N:=3) ?hd (cs:=#[.int .i64 a1_0,.int .i64 a1_1,.string a1_2]) (t:=63) ?hr ?_;(case hd=>rfl);(case hg=>rfl);(case hr=>first|(go_simp;done)|(go_simp;rfl));intro gb278 hg w22 hbox hb;have n0_:=Aside0.mk (blk_below (g:=gb277) (o:=.cells #[.int .i64 a0_0,.int .i64 a0_1,.string a0_2] 63 (0,0)) qz54 hb);have n1_:=Aside0.mk (below_step qz32 hb);have n2_:=Aside0.mk (hbox);have n3_:=Aside0.mk ((by rw [hg];exact (below_size qz32):w.heap.size≤gb278));have n4_:=Aside0.mk ((by rw [hg];exact (below_size qz32):w.heap.size≤gb278));have n5_:=Aside0.mk ((by rw [hg];exact Nat.ne_of_lt (blk_lt (g:=gb277) (o:=.cells #[.int .i64 a0_0,.int .i64 a0_1,.string a0_2] 63 (0,0)) qz54):gb277≠gb278));have n6_:=Aside0.mk ((by rw [hg];exact Nat.ne_of_gt (blk_lt (g:=gb277) (o:=.cells #[.int .i64 a0_0,.int .i64 a0_1,.string a0_2] 63 (0,0)) qz54):gb278≠gb277));clear BK277 HB;have BK277:=n0_;have HB:=n1_;have BK278:=n2_;have GW278:=n3_;have GE278:=n4_;have NB277_278:=n5_;have NB278_277:=n6_;clear n0_ n1_ n2_ n3_ n4_ n5_ n6_ hb hbox hg;have hnb23:=NB277_278.out;have hnc23:=NB278_277.out;have hcz24_0:w22.cell? ⟨gb277,0,none⟩=some (.int .i64 a0_0):=(blk_cell BK277.out 0).trans rfl;have hcz24_1:w22.cell? ⟨gb277,1,none⟩=some (.int .i64 a0_1):=(blk_cell BK277.out 1).trans rfl;have hcz24_2:w22.cell? ⟨gb277,2,none⟩=some (.string a0_2):=(blk_cell BK277.out 2).trans rfl;have hfz24_0:=blk_frozen BK277.out 0;have hfz24_1:=blk_frozen BK277.out 1;have hfz24_2:=blk_frozen BK277.out 2;have hcz25_0:w22.cell? ⟨gb278,0,none⟩=some (.int .i64 a1_0):=(blk_cell BK278.out 0).trans rfl;have hcz25_1:w22.cell? ⟨gb278,1,none⟩=some (.int .i64 a1_1):=(blk_cell BK278.out 1).trans rfl;have hcz25_2:w22.cell? ⟨gb278,2,none⟩=some (.string a1_2):=(blk_cell BK278.out 2).trans rfl;have hfz25_0:=blk_frozen BK278.out 0;have hfz25_1:=blk_frozen BK278.out 1;have hfz25_2:=blk_frozen BK278.out 2))
  go_ret
  exact ⟨qz4,qz101⟩

/-! ### laws_eqTrmCellS: function 28 -/
def laws_eqTrmCellS.l0:Nat→List (S63)→List (S63)→Int→Option (Bool)
 | 0,_,_,_=>none
 | k+1,x0,x1,x5=>if x5<(x0.length:Int) then (if 0≤x5 then (if x5<(x1.length:Int) then ((laws_eqTrmCell.f ((rd_T63 x0 x5).f0) ((rd_T63 x0 x5).f1) ((rd_T63 x0 x5).f2) ((rd_T63 x1 x5).f0) ((rd_T63 x1 x5).f1) ((rd_T63 x1 x5).f2)).bind fun t281=>(if t281=true then (laws_eqTrmCellS.l0 k x0 x1 (wrap64 (x5+1))) else (some false))) else (none)) else (none)) else (some true)
def laws_eqTrmCellS.f (k:Nat) (l0:List (S63)) (l1:List (S63)):Option (Bool):=if (l0.length:Int)=(l1.length:Int) then (laws_eqTrmCellS.l0 k l0 l1 0) else (some false)
def laws_eqTrmCellS.T6:Bool × List (List Nat × List Nat):=(true,[([],[]),([],[]),([0,1],[0,1]),([2],[2]),([],[]),([],[]),([4,5],[4,5]),([6],[6]),([3,7],[3,7]),([8],[8])])
def laws_eqTrmCellS.B6:List Nat:=[0,0,3,7,0,0,48,112,255,511]
theorem laws_eqTrmCellS.tab6:rtab .any (opsOf Tryz.f28 6)=laws_eqTrmCellS.T6:=by kernel_rfl
theorem laws_eqTrmCellS.bits6:waitsOk laws_eqTrmCellS.T6.2 laws_eqTrmCellS.B6=true:=by kernel_rfl
set_option maxHeartbeats 8000000 in
set_option maxRecDepth 100000 in
theorem laws_eqTrmCellS.calls (k:Nat) (A0:Option Addr) (c0:Nat) (l0:List (S63)) (A1:Option Addr) (c1:Nat) (l1:List (S63)) (r:Bool) (w:World) (hr0:Kd.C k63 w A0 l0.length l0) (hc0:l0.length≤c0) (hr1:Kd.C k63 w A1 l1.length l1) (hc1:l1.length≤c1) (h:laws_eqTrmCellS.f k l0 l1=some r) :
  Calls Tryz.prog 28 #[.slice A0 l0.length c0,.slice A1 l1.length c1] w fun e w'=>e = .returned (.bool r)∧Below w.heap.size w w':=by
 have hu63:=Tryz.underlying63
 have HR0:=Aside0.mk hr0
 have HC0:=Aside0.mk hc0
 clear hr0 hc0
 have HR1:=Aside0.mk hr1
 have HC1:=Aside0.mk hc1
 clear hr1 hc1
 have HB:=Aside0.mk (Below.refl w.heap.size w)
 have H:(if (l0.length:Int)=(l1.length:Int) then (laws_eqTrmCellS.l0 k l0 l1 0) else (some false))=some r:=h
 clear h
 by_cases c3:(l0.length:Int)=(l1.length:Int)
 ·rw [if_pos c3] at H
  have c3b0:((l0.length:Int) == (l1.length:Int))=true:=beq_iff_eq.mpr c3
  have c3b1:((l0.length:Int) != (l1.length:Int))=false:=bne_eq_false_iff_eq.mpr c3
  have c3b2:(l0.length == l1.length)=true:=by first|simpa using c3|(simp at c3 ⊢;omega)
  clear c3
  have H':=Aside0.mk H
  clear H
  go_enter Tryz.func28,Tryz.ntmps28
  go_wp2
  go_loopg [5] k (fun kq v5 w'=>∃ (x5_1:Int),v5 = .int .i64 x5_1∧Aside0 (laws_eqTrmCellS.l0 kq l0 l1 x5_1=some r)∧Aside0 (kq≤k)∧Aside0 (Below w.heap.size w w'))
  case atStart=>exact ⟨(0),qz9,H',⟨Nat.le_refl _⟩,⟨qz3⟩⟩
  case round=>
   clear H'
   try clear c1
   try clear c2
   try clear p2
   try clear c3
   try clear c3b0
   try clear c3b1
   try clear c3b2
   obtain ⟨x5_1,rfl,HA,HK1,HB⟩:=hrel
   cases gk with
   | zero=>exact absurd HA.out (by simp [laws_eqTrmCellS.l0])
   | succ k1=>
    have H:=HA.out
    clear HA
    simp only [laws_eqTrmCellS.l0] at H
    by_cases c4:x5_1<(l0.length:Int)
    ·rw [if_pos c4] at H
     have c4b0:decide (x5_1<(l0.length:Int))=true:=decide_eq_true c4
     clear c4
     by_cases c5:0≤x5_1
     ·rw [if_pos c5] at H
      have c5b0:decide (0≤x5_1)=true:=decide_eq_true c5
      clear c5
      by_cases c6:x5_1<(l1.length:Int)
      ·rw [if_pos c6] at H
       have c6b0:decide (x5_1<(l1.length:Int))=true:=decide_eq_true c6
       clear c6
       replace H:=Option.bind_eq_some_iff.mp H
       obtain ⟨t281,A70,H⟩:=H
       try dsimp only at H
       have A7:=Aside0.mk A70
       clear A70
       by_cases c8:t281=true
       ·subst c8
        have H1:(laws_eqTrmCellS.l0 k1 l0 l1 (wrap64 (x5_1+1)))=some r:=qz57
        clear H
        have H:=H1
        clear H1
        have H':=Aside0.mk H
        clear H
        try go_wp2
        have n0_:=Aside0.mk (below_drew1 HB.out)
        clear HB
        have HB:=n0_
        clear n0_
        have p279:0≤(x5_1:Int):=of_decide_eq_true qz5
        have q279:x5_1<(l0.length:Int):=of_decide_eq_true qz5
        obtain ⟨ad279,e279,hx279_0,hx279_1,hx279_2⟩:=at_T63 HR0.out x5_1 p279 q279
        have hw279_2:=hx279_2
        have hw279_1:=hx279_1
        have hw279_0:=hx279_0
        cases e279
        replace hx279_0:=(HB.out.cell (World.block_lt_of_cell? w _ hx279_0)).trans hx279_0
        replace hx279_1:=(HB.out.cell (World.block_lt_of_cell? w _ hx279_1)).trans hx279_1
        replace hx279_2:=(HB.out.cell (World.block_lt_of_cell? w _ hx279_2)).trans hx279_2
        replace p279:=eq_true p279
        replace q279:=eq_true q279
        have p280:0≤(x5_1:Int):=of_decide_eq_true qz5
        have q280:x5_1<(l1.length:Int):=of_decide_eq_true qz5
        obtain ⟨ad280,e280,hx280_0,hx280_1,hx280_2⟩:=at_T63 HR1.out x5_1 p280 q280
        have hw280_2:=hx280_2
        have hw280_1:=hx280_1
        have hw280_0:=hx280_0
        cases e280
        replace hx280_0:=(HB.out.cell (World.block_lt_of_cell? w _ hx280_0)).trans hx280_0
        replace hx280_1:=(HB.out.cell (World.block_lt_of_cell? w _ hx280_1)).trans hx280_1
        replace hx280_2:=(HB.out.cell (World.block_lt_of_cell? w _ hx280_2)).trans hx280_2
        replace p280:=eq_true p280
        replace q280:=eq_true q280
        refine start_ (n:=10) (S:=fun w'=>w'.cell? (ad279.add ((x5_1).toNat * 3))=some (.int .i64 ((rd_T63 l0 x5_1).f0))∧w'.cell? ⟨(ad279.add ((x5_1).toNat * 3)).block,(ad279.add ((x5_1).toNat * 3)).off+1,none⟩=some (.int .i64 ((rd_T63 l0 x5_1).f1))∧w'.cell? ⟨(ad279.add ((x5_1).toNat * 3)).block,(ad279.add ((x5_1).toNat * 3)).off+2,none⟩=some (.string ((rd_T63 l0 x5_1).f2))∧w'.cell? (ad280.add ((x5_1).toNat * 3))=some (.int .i64 ((rd_T63 l1 x5_1).f0))∧w'.cell? ⟨(ad280.add ((x5_1).toNat * 3)).block,(ad280.add ((x5_1).toNat * 3)).off+1,none⟩=some (.int .i64 ((rd_T63 l1 x5_1).f1))∧w'.cell? ⟨(ad280.add ((x5_1).toNat * 3)).block,(ad280.add ((x5_1).toNat * 3)).off+2,none⟩=some (.string ((rd_T63 l1 x5_1).f2))) (ds:=[]) #[false,false,false,false,false,false,false,false,false,false] (by kernel_rfl) rfl rfl ⟨((HB.out.cell (World.block_lt_of_cell? w _ hw279_0)).trans hw279_0),((HB.out.cell (World.block_lt_of_cell? w _ hw279_1)).trans hw279_1),((HB.out.cell (World.block_lt_of_cell? w _ hw279_2)).trans hw279_2),((HB.out.cell (World.block_lt_of_cell? w _ hw280_0)).trans hw280_0),((HB.out.cell (World.block_lt_of_cell? w _ hw280_1)).trans hw280_1),((HB.out.cell (World.block_lt_of_cell? w _ hw280_2)).trans hw280_2)⟩ (fun hHeld=>?_);refine with_tabW laws_eqTrmCellS.tab6 laws_eqTrmCellS.bits6 (fun HT_ HW_=>?_)
        generalize wr.drew=w9 at HB hx279_0 hx279_1 hx279_2 hx280_0 hx280_1 hx280_2 hHeld ⊢
        refine pure_ (i:=0) (N:=some 17) (v:=?_) (a':=?_) #[true,false,false,false,false,false,false,false,false,false] rfl rfl (any_of HT_.out (by kernel_rfl)) (fun _ _ _ h=>h) (Or.inl ⟨by rfl,?_⟩) ?_ ?_
        rotate_left
        ·intro w'
         go_simp
         with_reducible rfl
        rotate_left
        ·simp only [Act.put,List.setIfInBounds_toArray,List.set_cons_zero,List.set_cons_succ,i64_w,i32_w]
         rfl
        refine pure_ (i:=1) (N:=some 18) (v:=?_) (a':=?_) #[true,true,false,false,false,false,false,false,false,false] rfl rfl (any_of HT_.out (by kernel_rfl)) (fun _ _ _ h=>h) (Or.inl ⟨by rfl,?_⟩) ?_ ?_
        rotate_left
        ·intro w'
         go_simp
         with_reducible rfl
        rotate_left
        ·simp only [Act.put,List.setIfInBounds_toArray,List.set_cons_zero,List.set_cons_succ,i64_w,i32_w]
         rfl
        refine pure_ (i:=2) (N:=some 19) (v:=?_) (a':=?_) #[true,true,true,false,false,false,false,false,false,false] rfl rfl (any_of HT_.out (by kernel_rfl)) (fun _ _ _ h=>h) (Or.inl ⟨by rfl,?_⟩) ?_ ?_
        rotate_left
        ·intro w'
         go_simp
         with_reducible rfl
        rotate_left
        ·simp only [Act.put,List.setIfInBounds_toArray,List.set_cons_zero,List.set_cons_succ,i64_w,i32_w]
         rfl
        refine pure_ (i:=4) (N:=some 21) (v:=?_) (a':=?_) #[true,true,true,false,true,false,false,false,false,false] rfl rfl (any_of HT_.out (by kernel_rfl)) (fun _ _ _ h=>h) (Or.inl ⟨by rfl,?_⟩) ?_ ?_
        rotate_left
        ·intro w'
         go_simp
         with_reducible rfl
        rotate_left
        ·simp only [Act.put,List.setIfInBounds_toArray,List.set_cons_zero,List.set_cons_succ,i64_w,i32_w]
         rfl
        refine pure_ (i:=5) (N:=some 22) (v:=?_) (a':=?_) #[true,true,true,false,true,true,false,false,false,false] rfl rfl (any_of HT_.out (by kernel_rfl)) (fun _ _ _ h=>h) (Or.inl ⟨by rfl,?_⟩) ?_ ?_
        rotate_left
        ·intro w'
         go_simp
         with_reducible rfl
        rotate_left
        ·simp only [Act.put,List.setIfInBounds_toArray,List.set_cons_zero,List.set_cons_succ,i64_w,i32_w]
         rfl
        refine pure_ (i:=6) (N:=some 23) (v:=?_) (a':=?_) #[true,true,true,false,true,true,true,false,false,false] rfl rfl (any_of HT_.out (by kernel_rfl)) (fun _ _ _ h=>h) (Or.inl ⟨by rfl,?_⟩) ?_ ?_
        rotate_left
        ·intro w'
         go_simp
         with_reducible rfl
        rotate_left
        ·simp only [Act.put,List.setIfInBounds_toArray,List.set_cons_zero,List.set_cons_succ,i64_w,i32_w]
         rfl
        refine take_ (i:=3) (N:=some 20) (v:=?_) (a':=?_) #[true,true,true,true,true,true,true,false,false,false] rfl rfl (take_ofW HT_.out HW_.out (by kernel_rfl)) (fun _ _ _ h=>h) (Or.inl ⟨by rfl,?_⟩) hHeld ?_ ?_
        rotate_left
        ·rintro w' ⟨s0,s1,s2,s3,s4,s5⟩
         go_simp
         with_reducible rfl
        rotate_left
        ·simp only [Act.put,List.setIfInBounds_toArray,List.set_cons_zero,List.set_cons_succ,i64_w,i32_w]
         rfl
        refine take_ (i:=7) (N:=some 24) (v:=?_) (a':=?_) #[true,true,true,true,true,true,true,true,false,false] rfl rfl (take_ofW HT_.out HW_.out (by kernel_rfl)) (fun _ _ _ h=>h) (Or.inl ⟨by rfl,?_⟩) hHeld ?_ ?_
        rotate_left
        ·rintro w' ⟨s0,s1,s2,s3,s4,s5⟩
         go_simp
         with_reducible rfl
        rotate_left
        ·simp only [Act.put,List.setIfInBounds_toArray,List.set_cons_zero,List.set_cons_succ,i64_w,i32_w]
         rfl
        refine one_ (i:=8) (N:=some 25) #[true,true,true,true,true,true,true,true,true,false] rfl rfl (one_of HT_.out (by kernel_rfl)) (by decide) (fun K hK=>?_)
        refine goes_ Tryz.func54 (by kernel_rfl) rfl #[.agg #[.int .i64 ((rd_T63 l0 x5_1).f0),.int .i64 ((rd_T63 l0 x5_1).f1),.string ((rd_T63 l0 x5_1).f2)],.agg #[.int .i64 ((rd_T63 l1 x5_1).f0),.int .i64 ((rd_T63 l1 x5_1).f1),.string ((rd_T63 l1 x5_1).f2)]] (by rfl) rfl rfl qz2 ?_
        with_reducible refine (laws_eqTrmCell.calls ((rd_T63 l0 x5_1).f0) ((rd_T63 l0 x5_1).f1) ((rd_T63 l0 x5_1).f2) ((rd_T63 l1 x5_1).f0) ((rd_T63 l1 x5_1).f1) ((rd_T63 l1 x5_1).f2) true _ A7.out).mono ?_
        rintro e w10 ⟨rfl,hb⟩
        refine ⟨_,rfl,?_⟩
        have n0_:=Aside0.mk (below_step qz1 hb)
        clear HB
        have HB:=n0_
        clear n0_
        (try clear hb)
        (try clear hb2)
        (try clear hk)
        (try clear hi)
        refine hK.out _ _ ⟨((HB.out.cell (World.block_lt_of_cell? w _ hw279_0)).trans hw279_0),((HB.out.cell (World.block_lt_of_cell? w _ hw279_1)).trans hw279_1),((HB.out.cell (World.block_lt_of_cell? w _ hw279_2)).trans hw279_2),((HB.out.cell (World.block_lt_of_cell? w _ hw280_0)).trans hw280_0),((HB.out.cell (World.block_lt_of_cell? w _ hw280_1)).trans hw280_1),((HB.out.cell (World.block_lt_of_cell? w _ hw280_2)).trans hw280_2)⟩ (fun hHeld=>?_)
        clear hK K
        refine norm_ (a':=?_) ?_ ?_
        rotate_left
        ·show Act.put _ (some 25) _=_
         simp only [Act.put,List.setIfInBounds_toArray,List.set_cons_zero,List.set_cons_succ,i64_w,i32_w]
         rfl
        refine pure_ (i:=9) (N:=some 26) (v:=?_) (a':=?_) #[true,true,true,true,true,true,true,true,true,true] rfl rfl (any_of HT_.out (by kernel_rfl)) (fun _ _ _ h=>h) (Or.inl ⟨by rfl,?_⟩) ?_ ?_
        rotate_left
        ·intro w'
         go_simp
         with_reducible rfl
        rotate_left
        ·simp only [Act.put,List.setIfInBounds_toArray,List.set_cons_zero,List.set_cons_succ,i64_w,i32_w]
         rfl
        refine done_ (done_of HT_.out (by kernel_rfl)) ?_
        try go_wp2
        go_roundg k1
        case measure=>have:=HK1.out;omega
        case rel=>exact ⟨(wrap64 (x5_1+1)),qz9,H',⟨by have:=HK1.out;omega⟩,⟨qz3⟩⟩
       ·replace c8:=Bool.eq_false_iff.mpr c8
        subst c8
        have H1:(some false)=some r:=qz23
        clear H
        have H:=H1
        clear H1
        obtain rfl:=Option.some.inj H
        try go_wp2
        have n0_:=Aside0.mk (below_drew1 HB.out)
        clear HB
        have HB:=n0_
        clear n0_
        have p279:0≤(x5_1:Int):=of_decide_eq_true qz5
        have q279:x5_1<(l0.length:Int):=of_decide_eq_true qz5
        obtain ⟨ad279,e279,hx279_0,hx279_1,hx279_2⟩:=at_T63 HR0.out x5_1 p279 q279
        have hw279_2:=hx279_2
        have hw279_1:=hx279_1
        have hw279_0:=hx279_0
        cases e279
        replace hx279_0:=(HB.out.cell (World.block_lt_of_cell? w _ hx279_0)).trans hx279_0
        replace hx279_1:=(HB.out.cell (World.block_lt_of_cell? w _ hx279_1)).trans hx279_1
        replace hx279_2:=(HB.out.cell (World.block_lt_of_cell? w _ hx279_2)).trans hx279_2
        replace p279:=eq_true p279
        replace q279:=eq_true q279
        have p280:0≤(x5_1:Int):=of_decide_eq_true qz5
        have q280:x5_1<(l1.length:Int):=of_decide_eq_true qz5
        obtain ⟨ad280,e280,hx280_0,hx280_1,hx280_2⟩:=at_T63 HR1.out x5_1 p280 q280
        have hw280_2:=hx280_2
        have hw280_1:=hx280_1
        have hw280_0:=hx280_0
        cases e280
        replace hx280_0:=(HB.out.cell (World.block_lt_of_cell? w _ hx280_0)).trans hx280_0
        replace hx280_1:=(HB.out.cell (World.block_lt_of_cell? w _ hx280_1)).trans hx280_1
        replace hx280_2:=(HB.out.cell (World.block_lt_of_cell? w _ hx280_2)).trans hx280_2
        replace p280:=eq_true p280
        replace q280:=eq_true q280
        refine start_ (n:=10) (S:=fun w'=>w'.cell? (ad279.add ((x5_1).toNat * 3))=some (.int .i64 ((rd_T63 l0 x5_1).f0))∧w'.cell? ⟨(ad279.add ((x5_1).toNat * 3)).block,(ad279.add ((x5_1).toNat * 3)).off+1,none⟩=some (.int .i64 ((rd_T63 l0 x5_1).f1))∧w'.cell? ⟨(ad279.add ((x5_1).toNat * 3)).block,(ad279.add ((x5_1).toNat * 3)).off+2,none⟩=some (.string ((rd_T63 l0 x5_1).f2))∧w'.cell? (ad280.add ((x5_1).toNat * 3))=some (.int .i64 ((rd_T63 l1 x5_1).f0))∧w'.cell? ⟨(ad280.add ((x5_1).toNat * 3)).block,(ad280.add ((x5_1).toNat * 3)).off+1,none⟩=some (.int .i64 ((rd_T63 l1 x5_1).f1))∧w'.cell? ⟨(ad280.add ((x5_1).toNat * 3)).block,(ad280.add ((x5_1).toNat * 3)).off+2,none⟩=some (.string ((rd_T63 l1 x5_1).f2))) (ds:=[]) #[false,false,false,false,false,false,false,false,false,false] (by kernel_rfl) rfl rfl ⟨((HB.out.cell (World.block_lt_of_cell? w _ hw279_0)).trans hw279_0),((HB.out.cell (World.block_lt_of_cell? w _ hw279_1)).trans hw279_1),((HB.out.cell (World.block_lt_of_cell? w _ hw279_2)).trans hw279_2),((HB.out.cell (World.block_lt_of_cell? w _ hw280_0)).trans hw280_0),((HB.out.cell (World.block_lt_of_cell? w _ hw280_1)).trans hw280_1),((HB.out.cell (World.block_lt_of_cell? w _ hw280_2)).trans hw280_2)⟩ (fun hHeld=>?_);refine with_tabW laws_eqTrmCellS.tab6 laws_eqTrmCellS.bits6 (fun HT_ HW_=>?_)
        generalize wr.drew=w11 at HB hx279_0 hx279_1 hx279_2 hx280_0 hx280_1 hx280_2 hHeld ⊢
        refine pure_ (i:=0) (N:=some 17) (v:=?_) (a':=?_) #[true,false,false,false,false,false,false,false,false,false] rfl rfl (any_of HT_.out (by kernel_rfl)) (fun _ _ _ h=>h) (Or.inl ⟨by rfl,?_⟩) ?_ ?_
        rotate_left
        ·intro w'
         go_simp
         with_reducible rfl
        rotate_left
        ·simp only [Act.put,List.setIfInBounds_toArray,List.set_cons_zero,List.set_cons_succ,i64_w,i32_w]
         rfl
        refine pure_ (i:=1) (N:=some 18) (v:=?_) (a':=?_) #[true,true,false,false,false,false,false,false,false,false] rfl rfl (any_of HT_.out (by kernel_rfl)) (fun _ _ _ h=>h) (Or.inl ⟨by rfl,?_⟩) ?_ ?_
        rotate_left
        ·intro w'
         go_simp
         with_reducible rfl
        rotate_left
        ·simp only [Act.put,List.setIfInBounds_toArray,List.set_cons_zero,List.set_cons_succ,i64_w,i32_w]
         rfl
        refine pure_ (i:=2) (N:=some 19) (v:=?_) (a':=?_) #[true,true,true,false,false,false,false,false,false,false] rfl rfl (any_of HT_.out (by kernel_rfl)) (fun _ _ _ h=>h) (Or.inl ⟨by rfl,?_⟩) ?_ ?_
        rotate_left
        ·intro w'
         go_simp
         with_reducible rfl
        rotate_left
        ·simp only [Act.put,List.setIfInBounds_toArray,List.set_cons_zero,List.set_cons_succ,i64_w,i32_w]
         rfl
        refine pure_ (i:=4) (N:=some 21) (v:=?_) (a':=?_) #[true,true,true,false,true,false,false,false,false,false] rfl rfl (any_of HT_.out (by kernel_rfl)) (fun _ _ _ h=>h) (Or.inl ⟨by rfl,?_⟩) ?_ ?_
        rotate_left
        ·intro w'
         go_simp
         with_reducible rfl
        rotate_left
        ·simp only [Act.put,List.setIfInBounds_toArray,List.set_cons_zero,List.set_cons_succ,i64_w,i32_w]
         rfl
        refine pure_ (i:=5) (N:=some 22) (v:=?_) (a':=?_) #[true,true,true,false,true,true,false,false,false,false] rfl rfl (any_of HT_.out (by kernel_rfl)) (fun _ _ _ h=>h) (Or.inl ⟨by rfl,?_⟩) ?_ ?_
        rotate_left
        ·intro w'
         go_simp
         with_reducible rfl
        rotate_left
        ·simp only [Act.put,List.setIfInBounds_toArray,List.set_cons_zero,List.set_cons_succ,i64_w,i32_w]
         rfl
        refine pure_ (i:=6) (N:=some 23) (v:=?_) (a':=?_) #[true,true,true,false,true,true,true,false,false,false] rfl rfl (any_of HT_.out (by kernel_rfl)) (fun _ _ _ h=>h) (Or.inl ⟨by rfl,?_⟩) ?_ ?_
        rotate_left
        ·intro w'
         go_simp
         with_reducible rfl
        rotate_left
        ·simp only [Act.put,List.setIfInBounds_toArray,List.set_cons_zero,List.set_cons_succ,i64_w,i32_w]
         rfl
        refine take_ (i:=3) (N:=some 20) (v:=?_) (a':=?_) #[true,true,true,true,true,true,true,false,false,false] rfl rfl (take_ofW HT_.out HW_.out (by kernel_rfl)) (fun _ _ _ h=>h) (Or.inl ⟨by rfl,?_⟩) hHeld ?_ ?_
        rotate_left
        ·rintro w' ⟨s0,s1,s2,s3,s4,s5⟩
         go_simp
         with_reducible rfl
        rotate_left
        ·simp only [Act.put,List.setIfInBounds_toArray,List.set_cons_zero,List.set_cons_succ,i64_w,i32_w]
         rfl
        refine take_ (i:=7) (N:=some 24) (v:=?_) (a':=?_) #[true,true,true,true,true,true,true,true,false,false] rfl rfl (take_ofW HT_.out HW_.out (by kernel_rfl)) (fun _ _ _ h=>h) (Or.inl ⟨by rfl,?_⟩) hHeld ?_ ?_
        rotate_left
        ·rintro w' ⟨s0,s1,s2,s3,s4,s5⟩
         go_simp
         with_reducible rfl
        rotate_left
        ·simp only [Act.put,List.setIfInBounds_toArray,List.set_cons_zero,List.set_cons_succ,i64_w,i32_w]
         rfl
        refine one_ (i:=8) (N:=some 25) #[true,true,true,true,true,true,true,true,true,false] rfl rfl (one_of HT_.out (by kernel_rfl)) (by decide) (fun K hK=>?_)
        refine goes_ Tryz.func54 (by kernel_rfl) rfl #[.agg #[.int .i64 ((rd_T63 l0 x5_1).f0),.int .i64 ((rd_T63 l0 x5_1).f1),.string ((rd_T63 l0 x5_1).f2)],.agg #[.int .i64 ((rd_T63 l1 x5_1).f0),.int .i64 ((rd_T63 l1 x5_1).f1),.string ((rd_T63 l1 x5_1).f2)]] (by rfl) rfl rfl qz2 ?_
        with_reducible refine (laws_eqTrmCell.calls ((rd_T63 l0 x5_1).f0) ((rd_T63 l0 x5_1).f1) ((rd_T63 l0 x5_1).f2) ((rd_T63 l1 x5_1).f0) ((rd_T63 l1 x5_1).f1) ((rd_T63 l1 x5_1).f2) false _ A7.out).mono ?_
        rintro e w12 ⟨rfl,hb⟩
        refine ⟨_,rfl,?_⟩
        have n0_:=Aside0.mk (below_step qz1 hb)
        clear HB
        have HB:=n0_
        clear n0_
        (try clear hb)
        (try clear hb2)
        (try clear hk)
        (try clear hi)
        refine hK.out _ _ ⟨((HB.out.cell (World.block_lt_of_cell? w _ hw279_0)).trans hw279_0),((HB.out.cell (World.block_lt_of_cell? w _ hw279_1)).trans hw279_1),((HB.out.cell (World.block_lt_of_cell? w _ hw279_2)).trans hw279_2),((HB.out.cell (World.block_lt_of_cell? w _ hw280_0)).trans hw280_0),((HB.out.cell (World.block_lt_of_cell? w _ hw280_1)).trans hw280_1),((HB.out.cell (World.block_lt_of_cell? w _ hw280_2)).trans hw280_2)⟩ (fun hHeld=>?_)
        clear hK K
        refine norm_ (a':=?_) ?_ ?_
        rotate_left
        ·show Act.put _ (some 25) _=_
         simp only [Act.put,List.setIfInBounds_toArray,List.set_cons_zero,List.set_cons_succ,i64_w,i32_w]
         rfl
        refine pure_ (i:=9) (N:=some 26) (v:=?_) (a':=?_) #[true,true,true,true,true,true,true,true,true,true] rfl rfl (any_of HT_.out (by kernel_rfl)) (fun _ _ _ h=>h) (Or.inl ⟨by rfl,?_⟩) ?_ ?_
        rotate_left
        ·intro w'
         go_simp
         with_reducible rfl
        rotate_left
        ·simp only [Act.put,List.setIfInBounds_toArray,List.set_cons_zero,List.set_cons_succ,i64_w,i32_w]
         rfl
        refine done_ (done_of HT_.out (by kernel_rfl)) ?_
        try go_wp2
        go_ret
        exact ⟨qz4,qz3⟩
      ·rw [if_neg c6] at H
       exact absurd H (by simp)
     ·rw [if_neg c5] at H
      exact absurd H (by simp)
    ·rw [if_neg c4] at H
     have c4b0:decide (x5_1<(l0.length:Int))=false:=decide_eq_false c4
     clear c4
     obtain rfl:=Option.some.inj H
     go_wp2
     go_ret
     exact ⟨qz4,qz3⟩
 ·rw [if_neg c3] at H
  have c3b0:((l0.length:Int) == (l1.length:Int))=false:=beq_eq_false_iff_ne.mpr c3
  have c3b1:((l0.length:Int) != (l1.length:Int))=true:=bne_iff_ne.mpr c3
  have c3b2:(l0.length == l1.length)=false:=by first|simpa using c3|(simp at c3 ⊢;omega)
  obtain rfl:=Option.some.inj H
  go_enter Tryz.func28,Tryz.ntmps28
  go_wp2
  go_ret
  exact ⟨qz4,qz3⟩

/-! ### laws_eqPrgGoal: function 8 -/
def laws_eqPrgGoal.f (k:Nat) (a0_0:Int) (l0_1:List (S63)) (l0_2:List (S63)) (l0_3:List (S63)) (a1_0:Int) (l1_1:List (S63)) (l1_2:List (S63)) (l1_3:List (S63)):Option (Bool):=if a0_0=a1_0 then ((laws_eqTrmCellS.f k l0_1 l1_1).bind fun t284=>(if t284=true then ((laws_eqTrmCellS.f k l0_2 l1_2).bind fun t285=>(if t285=true then ((laws_eqTrmCellS.f k l0_3 l1_3).bind fun t286=>(if t286=true then (some true) else (some false))) else (some false))) else (some false))) else (some false)
set_option maxHeartbeats 8000000 in
set_option maxRecDepth 100000 in
theorem laws_eqPrgGoal.calls (k:Nat) (a0_0:Int) (A0_1:Option Addr) (c0_1:Nat) (l0_1:List (S63)) (A0_2:Option Addr) (c0_2:Nat) (l0_2:List (S63)) (A0_3:Option Addr) (c0_3:Nat) (l0_3:List (S63)) (a1_0:Int) (A1_1:Option Addr) (c1_1:Nat) (l1_1:List (S63)) (A1_2:Option Addr) (c1_2:Nat) (l1_2:List (S63)) (A1_3:Option Addr) (c1_3:Nat) (l1_3:List (S63)) (r:Bool) (w:World) (hr0_1:Kd.C k63 w A0_1 l0_1.length l0_1) (hc0_1:l0_1.length≤c0_1) (hr0_2:Kd.C k63 w A0_2 l0_2.length l0_2) (hc0_2:l0_2.length≤c0_2) (hr0_3:Kd.C k63 w A0_3 l0_3.length l0_3) (hc0_3:l0_3.length≤c0_3) (hr1_1:Kd.C k63 w A1_1 l1_1.length l1_1) (hc1_1:l1_1.length≤c1_1) (hr1_2:Kd.C k63 w A1_2 l1_2.length l1_2) (hc1_2:l1_2.length≤c1_2) (hr1_3:Kd.C k63 w A1_3 l1_3.length l1_3) (hc1_3:l1_3.length≤c1_3) (h:laws_eqPrgGoal.f k a0_0 l0_1 l0_2 l0_3 a1_0 l1_1 l1_2 l1_3=some r) :
  Calls Tryz.prog 8 #[.agg #[.int .i64 a0_0,.slice A0_1 l0_1.length c0_1,.slice A0_2 l0_2.length c0_2,.slice A0_3 l0_3.length c0_3],.agg #[.int .i64 a1_0,.slice A1_1 l1_1.length c1_1,.slice A1_2 l1_2.length c1_2,.slice A1_3 l1_3.length c1_3]] w fun e w'=>e = .returned (.bool r)∧Below w.heap.size w w':=by
 have hu24:=Tryz.underlying24
 have HR0_1:=Aside0.mk hr0_1
 have HC0_1:=Aside0.mk hc0_1
 clear hr0_1 hc0_1
 have HR0_2:=Aside0.mk hr0_2
 have HC0_2:=Aside0.mk hc0_2
 clear hr0_2 hc0_2
 have HR0_3:=Aside0.mk hr0_3
 have HC0_3:=Aside0.mk hc0_3
 clear hr0_3 hc0_3
 have HR1_1:=Aside0.mk hr1_1
 have HC1_1:=Aside0.mk hc1_1
 clear hr1_1 hc1_1
 have HR1_2:=Aside0.mk hr1_2
 have HC1_2:=Aside0.mk hc1_2
 clear hr1_2 hc1_2
 have HR1_3:=Aside0.mk hr1_3
 have HC1_3:=Aside0.mk hc1_3
 clear hr1_3 hc1_3
 have HB:=Aside0.mk (Below.refl w.heap.size w)
 have H:(if a0_0=a1_0 then ((laws_eqTrmCellS.f k l0_1 l1_1).bind fun t284=>(if t284=true then ((laws_eqTrmCellS.f k l0_2 l1_2).bind fun t285=>(if t285=true then ((laws_eqTrmCellS.f k l0_3 l1_3).bind fun t286=>(if t286=true then (some true) else (some false))) else (some false))) else (some false))) else (some false))=some r:=h
 clear h
 by_cases c3:a0_0=a1_0
 ·rw [if_pos c3] at H
  have c3b0:(a0_0 == a1_0)=true:=beq_iff_eq.mpr c3
  have c3b1:(a0_0 != a1_0)=false:=bne_eq_false_iff_eq.mpr c3
  clear c3
  replace H:=Option.bind_eq_some_iff.mp H
  obtain ⟨t284,A40,H⟩:=H
  try dsimp only at H
  have A4:=Aside0.mk A40
  clear A40
  by_cases c5:t284=true
  ·subst c5
   have H1:((laws_eqTrmCellS.f k l0_2 l1_2).bind fun t285=>(if t285=true then ((laws_eqTrmCellS.f k l0_3 l1_3).bind fun t286=>(if t286=true then (some true) else (some false))) else (some false)))=some r:=qz57
   clear H
   have H:=H1
   clear H1
   replace H:=Option.bind_eq_some_iff.mp H
   obtain ⟨t285,A60,H⟩:=H
   try dsimp only at H
   have A6:=Aside0.mk A60
   clear A60
   by_cases c7:t285=true
   ·subst c7
    have H1:((laws_eqTrmCellS.f k l0_3 l1_3).bind fun t286=>(if t286=true then (some true) else (some false)))=some r:=qz57
    clear H
    have H:=H1
    clear H1
    replace H:=Option.bind_eq_some_iff.mp H
    obtain ⟨t286,A80,H⟩:=H
    try dsimp only at H
    have A8:=Aside0.mk A80
    clear A80
    by_cases c9:t286=true
    ·subst c9
     have H1:(some true)=some r:=qz57
     clear H
     have H:=H1
     clear H1
     obtain rfl:=Option.some.inj H
     go_enter Tryz.func8,Tryz.ntmps8
     go_wp2_with (first|((with_reducible refine gate_dst (N:=2) rfl ?_);refine box_event ?hg (N:=2) ?hd (cs:=#[.int .i64 a0_0,.slice A0_1 l0_1.length c0_1,.slice A0_2 l0_2.length c0_2,.slice A0_3 l0_3.length c0_3]) (t:=24) ?hr ?_;(case hd=>rfl);(case hg=>rfl);(case hr=>first|(go_simp;done)|(go_simp;rfl));intro gb282 hg w10 hbox hb;have n0_:=Aside0.mk (below_step qz1 hb);have n1_:=Aside0.mk (hbox);have n2_:=Aside0.mk ((by rw [hg];exact (below_size qz1):w.heap.size≤gb282));have n3_:=Aside0.mk ((by rw [hg];exact (below_size qz1):w.heap.size≤gb282));clear HB;have HB:=n0_;have BK282:=n1_;have GW282:=n2_;have GE282:=n3_;clear n0_ n1_ n2_ n3_ hb hbox hg)|((with_reducible refine gate_dst (N:=3) rfl ?_);refine box_event ?hg (N:=3) ?hd (cs:=#[.int .i64 a1_0,.slice A1_1 l1_1.length c1_1,.slice A1_2 l1_2.length c1_2,.slice A1_3 l1_3.length c1_3]) (t:=24) ?hr ?_;(case hd=>rfl);(case hg=>rfl);(case hr=>first|(go_simp;done)|(go_simp;rfl));intro gb283 hg w11 hbox hb;have n0_:=Aside0.mk (blk_below (g:=gb282) (o:=.cells #[.int .i64 a0_0,.slice A0_1 l0_1.length c0_1,.slice A0_2 l0_2.length c0_2,.slice A0_3 l0_3.length c0_3] 24 (0,0)) qz20 hb);have n1_:=Aside0.mk (below_step qz25 hb);have n2_:=Aside0.mk (hbox);have n3_:=Aside0.mk ((by rw [hg];exact (below_size qz25):w.heap.size≤gb283));have n4_:=Aside0.mk ((by rw [hg];exact (below_size qz25):w.heap.size≤gb283));have n5_:=Aside0.mk ((by rw [hg];exact Nat.ne_of_lt (blk_lt (g:=gb282) (o:=.cells #[.int .i64 a0_0,.slice A0_1 l0_1.length c0_1,.slice A0_2 l0_2.length c0_2,.slice A0_3 l0_3.length c0_3] 24 (0,0)) qz20):gb282≠gb283));have n6_:=Aside0.mk ((by rw [hg];exact Nat.ne_of_gt (blk_lt (g:=gb282) (o:=.cells #[.int .i64 a0_0,.slice A0_1 l0_1.length c0_1,.slice A0_2 l0_2.length c0_2,.slice A0_3 l0_3.length c0_3] 24 (0,0)) qz20):gb283≠gb282));clear BK282 HB;have BK282:=n0_;have HB:=n1_;have BK283:=n2_;have GW283:=n3_;have GE283:=n4_;have NB282_283:=n5_;have NB283_282:=n6_;clear n0_ n1_ n2_ n3_ n4_ n5_ n6_ hb hbox hg;have hnb12:=NB282_283.out;have hnc12:=NB283_282.out;have hcz13_0:w11.cell? ⟨gb282,0,none⟩=some (.int .i64 a0_0):=(blk_cell BK282.out 0).trans rfl;have hcz13_1:w11.cell? ⟨gb282,1,none⟩=some (.slice A0_1 l0_1.length c0_1):=(blk_cell BK282.out 1).trans rfl;have hcz13_2:w11.cell? ⟨gb282,2,none⟩=some (.slice A0_2 l0_2.length c0_2):=(blk_cell BK282.out 2).trans rfl;have hcz13_3:w11.cell? ⟨gb282,3,none⟩=some (.slice A0_3 l0_3.length c0_3):=(blk_cell BK282.out 3).trans rfl;have hfz13_0:=blk_frozen BK282.out 0;have hfz13_1:=blk_frozen BK282.out 1;have hfz13_2:=blk_frozen BK282.out 2;have hfz13_3:=blk_frozen BK282.out 3;have hcz14_0:w11.cell? ⟨gb283,0,none⟩=some (.int .i64 a1_0):=(blk_cell BK283.out 0).trans rfl;have hcz14_1:w11.cell? ⟨gb283,1,none⟩=some (.slice A1_1 l1_1.length c1_1):=(blk_cell BK283.out 1).trans rfl;have hcz14_2:w11.cell? ⟨gb283,2,none⟩=some (.slice A1_2 l1_2.length c1_2):=(blk_cell BK283.out 2).trans rfl;have hcz14_3:w11.cell? ⟨gb283,3,none⟩=some (.slice A1_3 l1_3.length c1_3):=(blk_cell BK283.out 3).trans rfl;have hfz14_0:=blk_frozen BK283.out 0;have hfz14_1:=blk_frozen BK283.out 1;have hfz14_2:=blk_frozen BK283.out 2;have hfz14_3:=blk_frozen BK283.out 3)|((with_reducible refine gate_callee (f:=28) rfl ?_);refine goesL_ (some 14) rfl rfl Tryz.func28 (by kernel_rfl) rfl #[.slice A0_1 l0_1.length c0_1,.slice A1_1 l1_1.length c1_1] rfl qz2 ?_;(with_reducible refine (laws_eqTrmCellS.calls k _ _ l0_1 _ _ l1_1 true _ ?side1 ?side2 ?side3 ?side4 A4.out).mono ?_);(case side1=>exact qz6);(case side2=>exact HC0_1.out);(case side3=>exact qz103);(case side4=>exact HC1_1.out);rintro e w15 ⟨rfl,hb⟩;refine ⟨_,rfl,?_⟩;have n0_:=Aside0.mk (blk_below (g:=gb282) (o:=.cells #[.int .i64 a0_0,.slice A0_1 l0_1.length c0_1,.slice A0_2 l0_2.length c0_2,.slice A0_3 l0_3.length c0_3] 24 (0,0)) qz20 hb);have n1_:=Aside0.mk (blk_below (g:=gb283) (o:=.cells #[.int .i64 a1_0,.slice A1_1 l1_1.length c1_1,.slice A1_2 l1_2.length c1_2,.slice A1_3 l1_3.length c1_3] 24 (0,0)) qz75 hb);have n2_:=Aside0.mk (below_step qz21 hb);clear BK282 BK283 HB;have BK282:=n0_;have BK283:=n1_;have HB:=n2_;clear n0_ n1_ n2_;(try clear hb);(try clear hb2);(try clear hk);(try clear hi);have hcz16_0:w15.cell? ⟨gb282,0,none⟩=some (.int .i64 a0_0):=(blk_cell BK282.out 0).trans rfl;have hcz16_1:w15.cell? ⟨gb282,1,none⟩=some (.slice A0_1 l0_1.length c0_1):=(blk_cell BK282.out 1).trans rfl;have hcz16_2:w15.cell? ⟨gb282,2,none⟩=some (.slice A0_2 l0_2.length c0_2):=(blk_cell BK282.out 2).trans rfl;have hcz16_3:w15.cell? ⟨gb282,3,none⟩=some (.slice A0_3 l0_3.length c0_3):=(blk_cell BK282.out 3).trans rfl;have hfz16_0:=blk_frozen BK282.out 0;have hfz16_1:=blk_frozen BK282.out 1;have hfz16_2:=blk_frozen BK282.out 2;have hfz16_3:=blk_frozen BK282.out 3;have hcz17_0:w15.cell? ⟨gb283,0,none⟩=some (.int .i64 a1_0):=(blk_cell BK283.out 0).trans rfl;have hcz17_1:w15.cell? ⟨gb283,1,none⟩=some (.slice A1_1 l1_1.length c1_1):=(blk_cell BK283.out 1).trans rfl;have hcz17_2:w15.cell? ⟨gb283,2,none⟩=some (.slice A1_2 l1_2.length c1_2):=(blk_cell BK283.out 2).trans rfl;have hcz17_3:w15.cell? ⟨gb283,3,none⟩=some (.slice A1_3 l1_3.length c1_3):=(blk_cell BK283.out 3).trans rfl;have hfz17_0:=blk_frozen BK283.out 0;have hfz17_1:=blk_frozen BK283.out 1;have hfz17_2:=blk_frozen BK283.out 2;have hfz17_3:=blk_frozen BK283.out 3)|((with_reducible refine gate_callee (f:=28) rfl ?_);refine goesL_ (some 20) rfl rfl Tryz.func28 (by kernel_rfl) rfl #[.slice A0_2 l0_2.length c0_2,.slice A1_2 l1_2.length c1_2] rfl qz2 ?_;(with_reducible refine (laws_eqTrmCellS.calls k _ _ l0_2 _ _ l1_2 true _ ?side1 ?side2 ?side3 ?side4 A6.out).mono ?_);(case side1=>exact qz10);(case side2=>exact HC0_2.out);(case side3=>exact qz128);(case side4=>exact HC1_2.out);rintro e w18 ⟨rfl,hb⟩;refine ⟨_,rfl,?_⟩;have n0_:=Aside0.mk (blk_below (g:=gb282) (o:=.cells #[.int .i64 a0_0,.slice A0_1 l0_1.length c0_1,.slice A0_2 l0_2.length c0_2,.slice A0_3 l0_3.length c0_3] 24 (0,0)) qz20 hb);have n1_:=Aside0.mk (blk_below (g:=gb283) (o:=.cells #[.int .i64 a1_0,.slice A1_1 l1_1.length c1_1,.slice A1_2 l1_2.length c1_2,.slice A1_3 l1_3.length c1_3] 24 (0,0)) qz75 hb);have n2_:=Aside0.mk (below_step qz21 hb);clear BK282 BK283 HB;have BK282:=n0_;have BK283:=n1_;have HB:=n2_;clear n0_ n1_ n2_;(try clear hb);(try clear hb2);(try clear hk);(try clear hi);have hcz19_0:w18.cell? ⟨gb282,0,none⟩=some (.int .i64 a0_0):=(blk_cell BK282.out 0).trans rfl;have hcz19_1:w18.cell? ⟨gb282,1,none⟩=some (.slice A0_1 l0_1.length c0_1):=(blk_cell BK282.out 1).trans rfl;have hcz19_2:w18.cell? ⟨gb282,2,none⟩=some (.slice A0_2 l0_2.length c0_2):=(blk_cell BK282.out 2).trans rfl;have hcz19_3:w18.cell? ⟨gb282,3,none⟩=some (.slice A0_3 l0_3.length c0_3):=(blk_cell BK282.out 3).trans rfl;have hfz19_0:=blk_frozen BK282.out 0;have hfz19_1:=blk_frozen BK282.out 1;have hfz19_2:=blk_frozen BK282.out 2;have hfz19_3:=blk_frozen BK282.out 3;have hcz20_0:w18.cell? ⟨gb283,0,none⟩=some (.int .i64 a1_0):=(blk_cell BK283.out 0).trans rfl;have hcz20_1:w18.cell? ⟨gb283,1,none⟩=some (.slice A1_1 l1_1.length c1_1):=(blk_cell BK283.out 1).trans rfl;have hcz20_2:w18.cell? ⟨gb283,2,none⟩=some (.slice A1_2 l1_2.length c1_2):=(blk_cell BK283.out 2).trans rfl;have hcz20_3:w18.cell? ⟨gb283,3,none⟩=some (.slice A1_3 l1_3.length c1_3):=(blk_cell BK283.out 3).trans rfl;have hfz20_0:=blk_frozen BK283.out 0;have hfz20_1:=blk_frozen BK283.out 1;have hfz20_2:=blk_frozen BK283.out 2;have hfz20_3:=blk_frozen BK283.out 3)|((with_reducible refine gate_callee (f:=28) rfl ?_);refine goesL_ (some 26) rfl rfl Tryz.func28 (by kernel_rfl) rfl #[.slice A0_3 l0_3.length c0_3,.slice A1_3 l1_3.length c1_3] rfl qz2 ?_;(with_reducible refine (laws_eqTrmCellS.calls k _ _ l0_3 _ _ l1_3 true _ ?side1 ?side2 ?side3 ?side4 A8.out).mono ?_);(case side1=>exact qz22);(case side2=>exact HC0_3.out);(case side3=>exact qz174);(case side4=>exact HC1_3.out);rintro e w21 ⟨rfl,hb⟩;refine ⟨_,rfl,?_⟩;have n0_:=Aside0.mk (blk_below (g:=gb282) (o:=.cells #[.int .i64 a0_0,.slice A0_1 l0_1.length c0_1,.slice A0_2 l0_2.length c0_2,.slice A0_3 l0_3.length c0_3] 24 (0,0)) qz20 hb);have n1_:=Aside0.mk (blk_below (g:=gb283) (o:=.cells #[.int .i64 a1_0,.slice A1_1 l1_1.length c1_1,.slice A1_2 l1_2.length c1_2,.slice A1_3 l1_3.length c1_3] 24 (0,0)) qz75 hb);have n2_:=Aside0.mk (below_step qz21 hb);clear BK282 BK283 HB;have BK282:=n0_;have BK283:=n1_;have HB:=n2_;clear n0_ n1_ n2_;(try clear hb);(try clear hb2);(try clear hk);(try clear hi)))
     go_ret
     exact ⟨qz4,qz21⟩
    ·replace c9:=Bool.eq_false_iff.mpr c9
     subst c9
     have H1:(some false)=some r:=qz23
     clear H
     have H:=H1
     clear H1
     obtain rfl:=Option.some.inj H
     go_enter Tryz.func8,Tryz.ntmps8
     go_wp2_with (first|((with_reducible refine gate_dst (N:=2) rfl ?_);refine box_event ?hg (N:=2) ?hd (cs:=#[.int .i64 a0_0,.slice A0_1 l0_1.length c0_1,.slice A0_2 l0_2.length c0_2,.slice A0_3 l0_3.length c0_3]) (t:=24) ?hr ?_;(case hd=>rfl);(case hg=>rfl);(case hr=>first|(go_simp;done)|(go_simp;rfl));intro gb282 hg w22 hbox hb;have n0_:=Aside0.mk (below_step qz1 hb);have n1_:=Aside0.mk (hbox);have n2_:=Aside0.mk ((by rw [hg];exact (below_size qz1):w.heap.size≤gb282));have n3_:=Aside0.mk ((by rw [hg];exact (below_size qz1):w.heap.size≤gb282));clear HB;have HB:=n0_;have BK282:=n1_;have GW282:=n2_;have GE282:=n3_;clear n0_ n1_ n2_ n3_ hb hbox hg)|((with_reducible refine gate_dst (N:=3) rfl ?_);refine box_event ?hg (N:=3) ?hd (cs:=#[.int .i64 a1_0,.slice A1_1 l1_1.length c1_1,.slice A1_2 l1_2.length c1_2,.slice A1_3 l1_3.length c1_3]) (t:=24) ?hr ?_;(case hd=>rfl);(case hg=>rfl);(case hr=>first|(go_simp;done)|(go_simp;rfl));intro gb283 hg w23 hbox hb;have n0_:=Aside0.mk (blk_below (g:=gb282) (o:=.cells #[.int .i64 a0_0,.slice A0_1 l0_1.length c0_1,.slice A0_2 l0_2.length c0_2,.slice A0_3 l0_3.length c0_3] 24 (0,0)) qz20 hb);have n1_:=Aside0.mk (below_step qz25 hb);have n2_:=Aside0.mk (hbox);have n3_:=Aside0.mk ((by rw [hg];exact (below_size qz25):w.heap.size≤gb283));have n4_:=Aside0.mk ((by rw [hg];exact (below_size qz25):w.heap.size≤gb283));have n5_:=Aside0.mk ((by rw [hg];exact Nat.ne_of_lt (blk_lt (g:=gb282) (o:=.cells #[.int .i64 a0_0,.slice A0_1 l0_1.length c0_1,.slice A0_2 l0_2.length c0_2,.slice A0_3 l0_3.length c0_3] 24 (0,0)) qz20):gb282≠gb283));have n6_:=Aside0.mk ((by rw [hg];exact Nat.ne_of_gt (blk_lt (g:=gb282) (o:=.cells #[.int .i64 a0_0,.slice A0_1 l0_1.length c0_1,.slice A0_2 l0_2.length c0_2,.slice A0_3 l0_3.length c0_3] 24 (0,0)) qz20):gb283≠gb282));clear BK282 HB;have BK282:=n0_;have HB:=n1_;have BK283:=n2_;have GW283:=n3_;have GE283:=n4_;have NB282_283:=n5_;have NB283_282:=n6_;clear n0_ n1_ n2_ n3_ n4_ n5_ n6_ hb hbox hg;have hnb24:=NB282_283.out;have hnc24:=NB283_282.out;have hcz25_0:w23.cell? ⟨gb282,0,none⟩=some (.int .i64 a0_0):=(blk_cell BK282.out 0).trans rfl;have hcz25_1:w23.cell? ⟨gb282,1,none⟩=some (.slice A0_1 l0_1.length c0_1):=(blk_cell BK282.out 1).trans rfl;have hcz25_2:w23.cell? ⟨gb282,2,none⟩=some (.slice A0_2 l0_2.length c0_2):=(blk_cell BK282.out 2).trans rfl;have hcz25_3:w23.cell? ⟨gb282,3,none⟩=some (.slice A0_3 l0_3.length c0_3):=(blk_cell BK282.out 3).trans rfl;have hfz25_0:=blk_frozen BK282.out 0;have hfz25_1:=blk_frozen BK282.out 1;have hfz25_2:=blk_frozen BK282.out 2;have hfz25_3:=blk_frozen BK282.out 3;have hcz26_0:w23.cell? ⟨gb283,0,none⟩=some (.int .i64 a1_0):=(blk_cell BK283.out 0).trans rfl;have hcz26_1:w23.cell? ⟨gb283,1,none⟩=some (.slice A1_1 l1_1.length c1_1):=(blk_cell BK283.out 1).trans rfl;have hcz26_2:w23.cell? ⟨gb283,2,none⟩=some (.slice A1_2 l1_2.length c1_2):=(blk_cell BK283.out 2).trans rfl;have hcz26_3:w23.cell? ⟨gb283,3,none⟩=some (.slice A1_3 l1_3.length c1_3):=(blk_cell BK283.out 3).trans rfl;have hfz26_0:=blk_frozen BK283.out 0;have hfz26_1:=blk_frozen BK283.out 1;have hfz26_2:=blk_frozen BK283.out 2;have hfz26_3:=blk_frozen BK283.out 3)|((with_reducible refine gate_callee (f:=28) rfl ?_);refine goesL_ (some 14) rfl rfl Tryz.func28 (by kernel_rfl) rfl #[.slice A0_1 l0_1.length c0_1,.slice A1_1 l1_1.length c1_1] rfl qz2 ?_;(with_reducible refine (laws_eqTrmCellS.calls k _ _ l0_1 _ _ l1_1 true _ ?side1 ?side2 ?side3 ?side4 A4.out).mono ?_);(case side1=>exact qz6);(case side2=>exact HC0_1.out);(case side3=>exact qz103);(case side4=>exact HC1_1.out);rintro e w27 ⟨rfl,hb⟩;refine ⟨_,rfl,?_⟩;have n0_:=Aside0.mk (blk_below (g:=gb282) (o:=.cells #[.int .i64 a0_0,.slice A0_1 l0_1.length c0_1,.slice A0_2 l0_2.length c0_2,.slice A0_3 l0_3.length c0_3] 24 (0,0)) qz20 hb);have n1_:=Aside0.mk (blk_below (g:=gb283) (o:=.cells #[.int .i64 a1_0,.slice A1_1 l1_1.length c1_1,.slice A1_2 l1_2.length c1_2,.slice A1_3 l1_3.length c1_3] 24 (0,0)) qz75 hb);have n2_:=Aside0.mk (below_step qz21 hb);clear BK282 BK283 HB;have BK282:=n0_;have BK283:=n1_;have HB:=n2_;clear n0_ n1_ n2_;(try clear hb);(try clear hb2);(try clear hk);(try clear hi);have hcz28_0:w27.cell? ⟨gb282,0,none⟩=some (.int .i64 a0_0):=(blk_cell BK282.out 0).trans rfl;have hcz28_1:w27.cell? ⟨gb282,1,none⟩=some (.slice A0_1 l0_1.length c0_1):=(blk_cell BK282.out 1).trans rfl;have hcz28_2:w27.cell? ⟨gb282,2,none⟩=some (.slice A0_2 l0_2.length c0_2):=(blk_cell BK282.out 2).trans rfl;have hcz28_3:w27.cell? ⟨gb282,3,none⟩=some (.slice A0_3 l0_3.length c0_3):=(blk_cell BK282.out 3).trans rfl;have hfz28_0:=blk_frozen BK282.out 0;have hfz28_1:=blk_frozen BK282.out 1;have hfz28_2:=blk_frozen BK282.out 2;have hfz28_3:=blk_frozen BK282.out 3;have hcz29_0:w27.cell? ⟨gb283,0,none⟩=some (.int .i64 a1_0):=(blk_cell BK283.out 0).trans rfl;have hcz29_1:w27.cell? ⟨gb283,1,none⟩=some (.slice A1_1 l1_1.length c1_1):=(blk_cell BK283.out 1).trans rfl;have hcz29_2:w27.cell? ⟨gb283,2,none⟩=some (.slice A1_2 l1_2.length c1_2):=(blk_cell BK283.out 2).trans rfl;have hcz29_3:w27.cell? ⟨gb283,3,none⟩=some (.slice A1_3 l1_3.length c1_3):=(blk_cell BK283.out 3).trans rfl;have hfz29_0:=blk_frozen BK283.out 0;have hfz29_1:=blk_frozen BK283.out 1;have hfz29_2:=blk_frozen BK283.out 2;have hfz29_3:=blk_frozen BK283.out 3)|((with_reducible refine gate_callee (f:=28) rfl ?_);refine goesL_ (some 20) rfl rfl Tryz.func28 (by kernel_rfl) rfl #[.slice A0_2 l0_2.length c0_2,.slice A1_2 l1_2.length c1_2] rfl qz2 ?_;(with_reducible refine (laws_eqTrmCellS.calls k _ _ l0_2 _ _ l1_2 true _ ?side1 ?side2 ?side3 ?side4 A6.out).mono ?_);(case side1=>exact qz10);(case side2=>exact HC0_2.out);(case side3=>exact qz128);(case side4=>exact HC1_2.out);rintro e w30 ⟨rfl,hb⟩;refine ⟨_,rfl,?_⟩;have n0_:=Aside0.mk (blk_below (g:=gb282) (o:=.cells #[.int .i64 a0_0,.slice A0_1 l0_1.length c0_1,.slice A0_2 l0_2.length c0_2,.slice A0_3 l0_3.length c0_3] 24 (0,0)) qz20 hb);have n1_:=Aside0.mk (blk_below (g:=gb283) (o:=.cells #[.int .i64 a1_0,.slice A1_1 l1_1.length c1_1,.slice A1_2 l1_2.length c1_2,.slice A1_3 l1_3.length c1_3] 24 (0,0)) qz75 hb);have n2_:=Aside0.mk (below_step qz21 hb);clear BK282 BK283 HB;have BK282:=n0_;have BK283:=n1_;have HB:=n2_;clear n0_ n1_ n2_;(try clear hb);(try clear hb2);(try clear hk);(try clear hi);have hcz31_0:w30.cell? ⟨gb282,0,none⟩=some (.int .i64 a0_0):=(blk_cell BK282.out 0).trans rfl;have hcz31_1:w30.cell? ⟨gb282,1,none⟩=some (.slice A0_1 l0_1.length c0_1):=(blk_cell BK282.out 1).trans rfl;have hcz31_2:w30.cell? ⟨gb282,2,none⟩=some (.slice A0_2 l0_2.length c0_2):=(blk_cell BK282.out 2).trans rfl;have hcz31_3:w30.cell? ⟨gb282,3,none⟩=some (.slice A0_3 l0_3.length c0_3):=(blk_cell BK282.out 3).trans rfl;have hfz31_0:=blk_frozen BK282.out 0;have hfz31_1:=blk_frozen BK282.out 1;have hfz31_2:=blk_frozen BK282.out 2;have hfz31_3:=blk_frozen BK282.out 3;have hcz32_0:w30.cell? ⟨gb283,0,none⟩=some (.int .i64 a1_0):=(blk_cell BK283.out 0).trans rfl;have hcz32_1:w30.cell? ⟨gb283,1,none⟩=some (.slice A1_1 l1_1.length c1_1):=(blk_cell BK283.out 1).trans rfl;have hcz32_2:w30.cell? ⟨gb283,2,none⟩=some (.slice A1_2 l1_2.length c1_2):=(blk_cell BK283.out 2).trans rfl;have hcz32_3:w30.cell? ⟨gb283,3,none⟩=some (.slice A1_3 l1_3.length c1_3):=(blk_cell BK283.out 3).trans rfl;have hfz32_0:=blk_frozen BK283.out 0;have hfz32_1:=blk_frozen BK283.out 1;have hfz32_2:=blk_frozen BK283.out 2;have hfz32_3:=blk_frozen BK283.out 3)|((with_reducible refine gate_callee (f:=28) rfl ?_);refine goesL_ (some 26) rfl rfl Tryz.func28 (by kernel_rfl) rfl #[.slice A0_3 l0_3.length c0_3,.slice A1_3 l1_3.length c1_3] rfl qz2 ?_;(with_reducible refine (laws_eqTrmCellS.calls k _ _ l0_3 _ _ l1_3 false _ ?side1 ?side2 ?side3 ?side4 A8.out).mono ?_);(case side1=>exact qz22);(case side2=>exact HC0_3.out);(case side3=>exact qz174);(case side4=>exact HC1_3.out);rintro e w33 ⟨rfl,hb⟩;refine ⟨_,rfl,?_⟩;have n0_:=Aside0.mk (blk_below (g:=gb282) (o:=.cells #[.int .i64 a0_0,.slice A0_1 l0_1.length c0_1,.slice A0_2 l0_2.length c0_2,.slice A0_3 l0_3.length c0_3] 24 (0,0)) qz20 hb);have n1_:=Aside0.mk (blk_below (g:=gb283) (o:=.cells #[.int .i64 a1_0,.slice A1_1 l1_1.length c1_1,.slice A1_2 l1_2.length c1_2,.slice A1_3 l1_3.length c1_3] 24 (0,0)) qz75 hb);have n2_:=Aside0.mk (below_step qz21 hb);clear BK282 BK283 HB;have BK282:=n0_;have BK283:=n1_;have HB:=n2_;clear n0_ n1_ n2_;(try clear hb);(try clear hb2);(try clear hk);(try clear hi)))
     go_ret
     exact ⟨qz4,qz21⟩
   ·replace c7:=Bool.eq_false_iff.mpr c7
    subst c7
    have H1:(some false)=some r:=qz23
    clear H
    have H:=H1
    clear H1
    obtain rfl:=Option.some.inj H
    go_enter Tryz.func8,Tryz.ntmps8
    go_wp2_with (first|((with_reducible refine gate_dst (N:=2) rfl ?_);refine box_event ?hg (N:=2) ?hd (cs:=#[.int .i64 a0_0,.slice A0_1 l0_1.length c0_1,.slice A0_2 l0_2.length c0_2,.slice A0_3 l0_3.length c0_3]) (t:=24) ?hr ?_;(case hd=>rfl);(case hg=>rfl);(case hr=>first|(go_simp;done)|(go_simp;rfl));intro gb282 hg w34 hbox hb;have n0_:=Aside0.mk (below_step qz1 hb);have n1_:=Aside0.mk (hbox);have n2_:=Aside0.mk ((by rw [hg];exact (below_size qz1):w.heap.size≤gb282));have n3_:=Aside0.mk ((by rw [hg];exact (below_size qz1):w.heap.size≤gb282));clear HB;have HB:=n0_;have BK282:=n1_;have GW282:=n2_;have GE282:=n3_;clear n0_ n1_ n2_ n3_ hb hbox hg)|((with_reducible refine gate_dst (N:=3) rfl ?_);refine box_event ?hg (N:=3) ?hd (cs:=#[.int .i64 a1_0,.slice A1_1 l1_1.length c1_1,.slice A1_2 l1_2.length c1_2,.slice A1_3 l1_3.length c1_3]) (t:=24) ?hr ?_;(case hd=>rfl);(case hg=>rfl);(case hr=>first|(go_simp;done)|(go_simp;rfl));intro gb283 hg w35 hbox hb;have n0_:=Aside0.mk (blk_below (g:=gb282) (o:=.cells #[.int .i64 a0_0,.slice A0_1 l0_1.length c0_1,.slice A0_2 l0_2.length c0_2,.slice A0_3 l0_3.length c0_3] 24 (0,0)) qz20 hb);have n1_:=Aside0.mk (below_step qz25 hb);have n2_:=Aside0.mk (hbox);have n3_:=Aside0.mk ((by rw [hg];exact (below_size qz25):w.heap.size≤gb283));have n4_:=Aside0.mk ((by rw [hg];exact (below_size qz25):w.heap.size≤gb283));have n5_:=Aside0.mk ((by rw [hg];exact Nat.ne_of_lt (blk_lt (g:=gb282) (o:=.cells #[.int .i64 a0_0,.slice A0_1 l0_1.length c0_1,.slice A0_2 l0_2.length c0_2,.slice A0_3 l0_3.length c0_3] 24 (0,0)) qz20):gb282≠gb283));have n6_:=Aside0.mk ((by rw [hg];exact Nat.ne_of_gt (blk_lt (g:=gb282) (o:=.cells #[.int .i64 a0_0,.slice A0_1 l0_1.length c0_1,.slice A0_2 l0_2.length c0_2,.slice A0_3 l0_3.length c0_3] 24 (0,0)) qz20):gb283≠gb282));clear BK282 HB;have BK282:=n0_;have HB:=n1_;have BK283:=n2_;have GW283:=n3_;have GE283:=n4_;have NB282_283:=n5_;have NB283_282:=n6_;clear n0_ n1_ n2_ n3_ n4_ n5_ n6_ hb hbox hg;have hnb36:=NB282_283.out;have hnc36:=NB283_282.out;have hcz37_0:w35.cell? ⟨gb282,0,none⟩=some (.int .i64 a0_0):=(blk_cell BK282.out 0).trans rfl;have hcz37_1:w35.cell? ⟨gb282,1,none⟩=some (.slice A0_1 l0_1.length c0_1):=(blk_cell BK282.out 1).trans rfl;have hcz37_2:w35.cell? ⟨gb282,2,none⟩=some (.slice A0_2 l0_2.length c0_2):=(blk_cell BK282.out 2).trans rfl;have hcz37_3:w35.cell? ⟨gb282,3,none⟩=some (.slice A0_3 l0_3.length c0_3):=(blk_cell BK282.out 3).trans rfl;have hfz37_0:=blk_frozen BK282.out 0;have hfz37_1:=blk_frozen BK282.out 1;have hfz37_2:=blk_frozen BK282.out 2;have hfz37_3:=blk_frozen BK282.out 3;have hcz38_0:w35.cell? ⟨gb283,0,none⟩=some (.int .i64 a1_0):=(blk_cell BK283.out 0).trans rfl;have hcz38_1:w35.cell? ⟨gb283,1,none⟩=some (.slice A1_1 l1_1.length c1_1):=(blk_cell BK283.out 1).trans rfl;have hcz38_2:w35.cell? ⟨gb283,2,none⟩=some (.slice A1_2 l1_2.length c1_2):=(blk_cell BK283.out 2).trans rfl;have hcz38_3:w35.cell? ⟨gb283,3,none⟩=some (.slice A1_3 l1_3.length c1_3):=(blk_cell BK283.out 3).trans rfl;have hfz38_0:=blk_frozen BK283.out 0;have hfz38_1:=blk_frozen BK283.out 1;have hfz38_2:=blk_frozen BK283.out 2;have hfz38_3:=blk_frozen BK283.out 3)|((with_reducible refine gate_callee (f:=28) rfl ?_);refine goesL_ (some 14) rfl rfl Tryz.func28 (by kernel_rfl) rfl #[.slice A0_1 l0_1.length c0_1,.slice A1_1 l1_1.length c1_1] rfl qz2 ?_;(with_reducible refine (laws_eqTrmCellS.calls k _ _ l0_1 _ _ l1_1 true _ ?side1 ?side2 ?side3 ?side4 A4.out).mono ?_);(case side1=>exact qz6);(case side2=>exact HC0_1.out);(case side3=>exact qz103);(case side4=>exact HC1_1.out);rintro e w39 ⟨rfl,hb⟩;refine ⟨_,rfl,?_⟩;have n0_:=Aside0.mk (blk_below (g:=gb282) (o:=.cells #[.int .i64 a0_0,.slice A0_1 l0_1.length c0_1,.slice A0_2 l0_2.length c0_2,.slice A0_3 l0_3.length c0_3] 24 (0,0)) qz20 hb);have n1_:=Aside0.mk (blk_below (g:=gb283) (o:=.cells #[.int .i64 a1_0,.slice A1_1 l1_1.length c1_1,.slice A1_2 l1_2.length c1_2,.slice A1_3 l1_3.length c1_3] 24 (0,0)) qz75 hb);have n2_:=Aside0.mk (below_step qz21 hb);clear BK282 BK283 HB;have BK282:=n0_;have BK283:=n1_;have HB:=n2_;clear n0_ n1_ n2_;(try clear hb);(try clear hb2);(try clear hk);(try clear hi);have hcz40_0:w39.cell? ⟨gb282,0,none⟩=some (.int .i64 a0_0):=(blk_cell BK282.out 0).trans rfl;have hcz40_1:w39.cell? ⟨gb282,1,none⟩=some (.slice A0_1 l0_1.length c0_1):=(blk_cell BK282.out 1).trans rfl;have hcz40_2:w39.cell? ⟨gb282,2,none⟩=some (.slice A0_2 l0_2.length c0_2):=(blk_cell BK282.out 2).trans rfl;have hcz40_3:w39.cell? ⟨gb282,3,none⟩=some (.slice A0_3 l0_3.length c0_3):=(blk_cell BK282.out 3).trans rfl;have hfz40_0:=blk_frozen BK282.out 0;have hfz40_1:=blk_frozen BK282.out 1;have hfz40_2:=blk_frozen BK282.out 2;have hfz40_3:=blk_frozen BK282.out 3;have hcz41_0:w39.cell? ⟨gb283,0,none⟩=some (.int .i64 a1_0):=(blk_cell BK283.out 0).trans rfl;have hcz41_1:w39.cell? ⟨gb283,1,none⟩=some (.slice A1_1 l1_1.length c1_1):=(blk_cell BK283.out 1).trans rfl;have hcz41_2:w39.cell? ⟨gb283,2,none⟩=some (.slice A1_2 l1_2.length c1_2):=(blk_cell BK283.out 2).trans rfl;have hcz41_3:w39.cell? ⟨gb283,3,none⟩=some (.slice A1_3 l1_3.length c1_3):=(blk_cell BK283.out 3).trans rfl;have hfz41_0:=blk_frozen BK283.out 0;have hfz41_1:=blk_frozen BK283.out 1;have hfz41_2:=blk_frozen BK283.out 2;have hfz41_3:=blk_frozen BK283.out 3)|((with_reducible refine gate_callee (f:=28) rfl ?_);refine goesL_ (some 20) rfl rfl Tryz.func28 (by kernel_rfl) rfl #[.slice A0_2 l0_2.length c0_2,.slice A1_2 l1_2.length c1_2] rfl qz2 ?_;(with_reducible refine (laws_eqTrmCellS.calls k _ _ l0_2 _ _ l1_2 false _ ?side1 ?side2 ?side3 ?side4 A6.out).mono ?_);(case side1=>exact qz10);(case side2=>exact HC0_2.out);(case side3=>exact qz128);(case side4=>exact HC1_2.out);rintro e w42 ⟨rfl,hb⟩;refine ⟨_,rfl,?_⟩;have n0_:=Aside0.mk (blk_below (g:=gb282) (o:=.cells #[.int .i64 a0_0,.slice A0_1 l0_1.length c0_1,.slice A0_2 l0_2.length c0_2,.slice A0_3 l0_3.length c0_3] 24 (0,0)) qz20 hb);have n1_:=Aside0.mk (blk_below (g:=gb283) (o:=.cells #[.int .i64 a1_0,.slice A1_1 l1_1.length c1_1,.slice A1_2 l1_2.length c1_2,.slice A1_3 l1_3.length c1_3] 24 (0,0)) qz75 hb);have n2_:=Aside0.mk (below_step qz21 hb);clear BK282 BK283 HB;have BK282:=n0_;have BK283:=n1_;have HB:=n2_;clear n0_ n1_ n2_;(try clear hb);(try clear hb2);(try clear hk);(try clear hi)))
    go_ret
    exact ⟨qz4,qz21⟩
  ·replace c5:=Bool.eq_false_iff.mpr c5
   subst c5
   have H1:(some false)=some r:=qz23
   clear H
   have H:=H1
   clear H1
   obtain rfl:=Option.some.inj H
   go_enter Tryz.func8,Tryz.ntmps8
   go_wp2_with (first|((with_reducible refine gate_dst (N:=2) rfl ?_);refine box_event ?hg (N:=2) ?hd (cs:=#[.int .i64 a0_0,.slice A0_1 l0_1.length c0_1,.slice A0_2 l0_2.length c0_2,.slice A0_3 l0_3.length c0_3]) (t:=24) ?hr ?_;(case hd=>rfl);(case hg=>rfl);(case hr=>first|(go_simp;done)|(go_simp;rfl));intro gb282 hg w43 hbox hb;have n0_:=Aside0.mk (below_step qz1 hb);have n1_:=Aside0.mk (hbox);have n2_:=Aside0.mk ((by rw [hg];exact (below_size qz1):w.heap.size≤gb282));have n3_:=Aside0.mk ((by rw [hg];exact (below_size qz1):w.heap.size≤gb282));clear HB;have HB:=n0_;have BK282:=n1_;have GW282:=n2_;have GE282:=n3_;clear n0_ n1_ n2_ n3_ hb hbox hg)|((with_reducible refine gate_dst (N:=3) rfl ?_);refine box_event ?hg (N:=3) ?hd (cs:=#[.int .i64 a1_0,.slice A1_1 l1_1.length c1_1,.slice A1_2 l1_2.length c1_2,.slice A1_3 l1_3.length c1_3]) (t:=24) ?hr ?_;(case hd=>rfl);(case hg=>rfl);(case hr=>first|(go_simp;done)|(go_simp;rfl));intro gb283 hg w44 hbox hb;have n0_:=Aside0.mk (blk_below (g:=gb282) (o:=.cells #[.int .i64 a0_0,.slice A0_1 l0_1.length c0_1,.slice A0_2 l0_2.length c0_2,.slice A0_3 l0_3.length c0_3] 24 (0,0)) qz20 hb);have n1_:=Aside0.mk (below_step qz25 hb);have n2_:=Aside0.mk (hbox);have n3_:=Aside0.mk ((by rw [hg];exact (below_size qz25):w.heap.size≤gb283));have n4_:=Aside0.mk ((by rw [hg];exact (below_size qz25):w.heap.size≤gb283));have n5_:=Aside0.mk ((by rw [hg];exact Nat.ne_of_lt (blk_lt (g:=gb282) (o:=.cells #[.int .i64 a0_0,.slice A0_1 l0_1.length c0_1,.slice A0_2 l0_2.length c0_2,.slice A0_3 l0_3.length c0_3] 24 (0,0)) qz20):gb282≠gb283));have n6_:=Aside0.mk ((by rw [hg];exact Nat.ne_of_gt (blk_lt (g:=gb282) (o:=.cells #[.int .i64 a0_0,.slice A0_1 l0_1.length c0_1,.slice A0_2 l0_2.length c0_2,.slice A0_3 l0_3.length c0_3] 24 (0,0)) qz20):gb283≠gb282));clear BK282 HB;have BK282:=n0_;have HB:=n1_;have BK283:=n2_;have GW283:=n3_;have GE283:=n4_;have NB282_283:=n5_;have NB283_282:=n6_;clear n0_ n1_ n2_ n3_ n4_ n5_ n6_ hb hbox hg;have hnb45:=NB282_283.out;have hnc45:=NB283_282.out;have hcz46_0:w44.cell? ⟨gb282,0,none⟩=some (.int .i64 a0_0):=(blk_cell BK282.out 0).trans rfl;have hcz46_1:w44.cell? ⟨gb282,1,none⟩=some (.slice A0_1 l0_1.length c0_1):=(blk_cell BK282.out 1).trans rfl;have hcz46_2:w44.cell? ⟨gb282,2,none⟩=some (.slice A0_2 l0_2.length c0_2):=(blk_cell BK282.out 2).trans rfl;have hcz46_3:w44.cell? ⟨gb282,3,none⟩=some (.slice A0_3 l0_3.length c0_3):=(blk_cell BK282.out 3).trans rfl;have hfz46_0:=blk_frozen BK282.out 0;have hfz46_1:=blk_frozen BK282.out 1;have hfz46_2:=blk_frozen BK282.out 2;have hfz46_3:=blk_frozen BK282.out 3;have hcz47_0:w44.cell? ⟨gb283,0,none⟩=some (.int .i64 a1_0):=(blk_cell BK283.out 0).trans rfl;have hcz47_1:w44.cell? ⟨gb283,1,none⟩=some (.slice A1_1 l1_1.length c1_1):=(blk_cell BK283.out 1).trans rfl;have hcz47_2:w44.cell? ⟨gb283,2,none⟩=some (.slice A1_2 l1_2.length c1_2):=(blk_cell BK283.out 2).trans rfl;have hcz47_3:w44.cell? ⟨gb283,3,none⟩=some (.slice A1_3 l1_3.length c1_3):=(blk_cell BK283.out 3).trans rfl;have hfz47_0:=blk_frozen BK283.out 0;have hfz47_1:=blk_frozen BK283.out 1;have hfz47_2:=blk_frozen BK283.out 2;have hfz47_3:=blk_frozen BK283.out 3)|((with_reducible refine gate_callee (f:=28) rfl ?_);refine goesL_ (some 14) rfl rfl Tryz.func28 (by kernel_rfl) rfl #[.slice A0_1 l0_1.length c0_1,.slice A1_1 l1_1.length c1_1] rfl qz2 ?_;(with_reducible refine (laws_eqTrmCellS.calls k _ _ l0_1 _ _ l1_1 false _ ?side1 ?side2 ?side3 ?side4 A4.out).mono ?_);(case side1=>exact qz6);(case side2=>exact HC0_1.out);(case side3=>exact qz103);(case side4=>exact HC1_1.out);rintro e w48 ⟨rfl,hb⟩;refine ⟨_,rfl,?_⟩;have n0_:=Aside0.mk (blk_below (g:=gb282) (o:=.cells #[.int .i64 a0_0,.slice A0_1 l0_1.length c0_1,.slice A0_2 l0_2.length c0_2,.slice A0_3 l0_3.length c0_3] 24 (0,0)) qz20 hb);have n1_:=Aside0.mk (blk_below (g:=gb283) (o:=.cells #[.int .i64 a1_0,.slice A1_1 l1_1.length c1_1,.slice A1_2 l1_2.length c1_2,.slice A1_3 l1_3.length c1_3] 24 (0,0)) qz75 hb);have n2_:=Aside0.mk (below_step qz21 hb);clear BK282 BK283 HB;have BK282:=n0_;have BK283:=n1_;have HB:=n2_;clear n0_ n1_ n2_;(try clear hb);(try clear hb2);(try clear hk);(try clear hi)))
   go_ret
   exact ⟨qz4,qz21⟩
 ·rw [if_neg c3] at H
  have c3b0:(a0_0 == a1_0)=false:=beq_eq_false_iff_ne.mpr c3
  have c3b1:(a0_0 != a1_0)=true:=bne_iff_ne.mpr c3
  obtain rfl:=Option.some.inj H
  go_enter Tryz.func8,Tryz.ntmps8
  go_wp2_with (first|((with_reducible refine gate_dst (N:=2) rfl ?_);refine box_event ?hg (N:=2) ?hd (cs:=#[.int .i64 a0_0,.slice A0_1 l0_1.length c0_1,.slice A0_2 l0_2.length c0_2,.slice A0_3 l0_3.length c0_3]) (t:=24) ?hr ?_;(case hd=>rfl);(case hg=>rfl);(case hr=>first|(go_simp;done)|(go_simp;rfl));intro gb282 hg w49 hbox hb;have n0_:=Aside0.mk (below_step qz1 hb);have n1_:=Aside0.mk (hbox);have n2_:=Aside0.mk ((by rw [hg];exact (below_size qz1):w.heap.size≤gb282));have n3_:=Aside0.mk ((by rw [hg];exact (below_size qz1):w.heap.size≤gb282));clear HB;have HB:=n0_;have BK282:=n1_;have GW282:=n2_;have GE282:=n3_;clear n0_ n1_ n2_ n3_ hb hbox hg)|((with_reducible refine gate_dst (N:=3) rfl ?_);refine box_event ?hg (N:=3) ?hd (cs:=#[.int .i64 a1_0,.slice A1_1 l1_1.length c1_1,.slice A1_2 l1_2.length c1_2,.slice A1_3 l1_3.length c1_3]) (t:=24) ?hr ?_;(case hd=>rfl);(case hg=>rfl);(case hr=>first|(go_simp;done)|(go_simp;rfl));intro gb283 hg w50 hbox hb;have n0_:=Aside0.mk (blk_below (g:=gb282) (o:=.cells #[.int .i64 a0_0,.slice A0_1 l0_1.length c0_1,.slice A0_2 l0_2.length c0_2,.slice A0_3 l0_3.length c0_3] 24 (0,0)) qz20 hb);have n1_:=Aside0.mk (below_step qz25 hb);have n2_:=Aside0.mk (hbox);have n3_:=Aside0.mk ((by rw [hg];exact (below_size qz25):w.heap.size≤gb283));have n4_:=Aside0.mk ((by rw [hg];exact (below_size qz25):w.heap.size≤gb283));have n5_:=Aside0.mk ((by rw [hg];exact Nat.ne_of_lt (blk_lt (g:=gb282) (o:=.cells #[.int .i64 a0_0,.slice A0_1 l0_1.length c0_1,.slice A0_2 l0_2.length c0_2,.slice A0_3 l0_3.length c0_3] 24 (0,0)) qz20):gb282≠gb283));have n6_:=Aside0.mk ((by rw [hg];exact Nat.ne_of_gt (blk_lt (g:=gb282) (o:=.cells #[.int .i64 a0_0,.slice A0_1 l0_1.length c0_1,.slice A0_2 l0_2.length c0_2,.slice A0_3 l0_3.length c0_3] 24 (0,0)) qz20):gb283≠gb282));clear BK282 HB;have BK282:=n0_;have HB:=n1_;have BK283:=n2_;have GW283:=n3_;have GE283:=n4_;have NB282_283:=n5_;have NB283_282:=n6_;clear n0_ n1_ n2_ n3_ n4_ n5_ n6_ hb hbox hg;have hnb51:=NB282_283.out;have hnc51:=NB283_282.out;have hcz52_0:w50.cell? ⟨gb282,0,none⟩=some (.int .i64 a0_0):=(blk_cell BK282.out 0).trans rfl;have hcz52_1:w50.cell? ⟨gb282,1,none⟩=some (.slice A0_1 l0_1.length c0_1):=(blk_cell BK282.out 1).trans rfl;have hcz52_2:w50.cell? ⟨gb282,2,none⟩=some (.slice A0_2 l0_2.length c0_2):=(blk_cell BK282.out 2).trans rfl;have hcz52_3:w50.cell? ⟨gb282,3,none⟩=some (.slice A0_3 l0_3.length c0_3):=(blk_cell BK282.out 3).trans rfl;have hfz52_0:=blk_frozen BK282.out 0;have hfz52_1:=blk_frozen BK282.out 1;have hfz52_2:=blk_frozen BK282.out 2;have hfz52_3:=blk_frozen BK282.out 3;have hcz53_0:w50.cell? ⟨gb283,0,none⟩=some (.int .i64 a1_0):=(blk_cell BK283.out 0).trans rfl;have hcz53_1:w50.cell? ⟨gb283,1,none⟩=some (.slice A1_1 l1_1.length c1_1):=(blk_cell BK283.out 1).trans rfl;have hcz53_2:w50.cell? ⟨gb283,2,none⟩=some (.slice A1_2 l1_2.length c1_2):=(blk_cell BK283.out 2).trans rfl;have hcz53_3:w50.cell? ⟨gb283,3,none⟩=some (.slice A1_3 l1_3.length c1_3):=(blk_cell BK283.out 3).trans rfl;have hfz53_0:=blk_frozen BK283.out 0;have hfz53_1:=blk_frozen BK283.out 1;have hfz53_2:=blk_frozen BK283.out 2;have hfz53_3:=blk_frozen BK283.out 3))
  go_ret
  exact ⟨qz4,qz21⟩

/-! ### laws_markText: function 55 -/
def laws_markText.l0:Nat→Int→ByteArray→Option (ByteArray)
 | 0,_,_=>none
 | k+1,x0,x3=>if x0 > 0 then ((some (([(wrap64 (48+(Int.tmod x0 10))) % 256]:List Int):List Int)).bind fun y287=>(if (strOfNums y287).size+x3.size≤9223372036854775807 then (laws_markText.l0 k (wrap64 (Int.tdiv x0 10)) ((strOfNums y287)++x3)) else (none))) else (if 1+x3.size≤9223372036854775807 then (some ((⟨#[109]⟩:ByteArray)++x3)) else (none))
def laws_markText.f (k:Nat) (a0:Int):Option (ByteArray):=if a0≤0 then (some (⟨#[109,48]⟩:ByteArray)) else (laws_markText.l0 k a0 (⟨#[]⟩:ByteArray))
set_option maxHeartbeats 8000000 in
set_option maxRecDepth 100000 in
theorem laws_markText.calls (k:Nat) (a0:Int) (r:ByteArray) (w:World) (h:laws_markText.f k a0=some r) :
  Calls Tryz.prog 55 #[.int .i64 a0] w fun e w'=>e = .returned (.string r)∧Below w.heap.size w w':=by
 have HB:=Aside0.mk (Below.refl w.heap.size w)
 have H:(if a0≤0 then (some (⟨#[109,48]⟩:ByteArray)) else (laws_markText.l0 k a0 (⟨#[]⟩:ByteArray)))=some r:=h
 clear h
 by_cases c2:a0≤0
 ·rw [if_pos c2] at H
  have c2b0:decide (a0≤0)=true:=decide_eq_true c2
  clear c2
  obtain rfl:=Option.some.inj H
  go_enter Tryz.func55,Tryz.ntmps55
  go_wp2
  go_ret
  exact ⟨qz4,qz3⟩
 ·rw [if_neg c2] at H
  have c2b0:decide (a0≤0)=false:=decide_eq_false c2
  clear c2
  have H':=Aside0.mk H
  clear H
  go_enter Tryz.func55,Tryz.ntmps55
  go_wp2
  go_loopg [0,3] k (fun kq v0 v3 w'=>∃ (x0_1:Int) (x3_1:ByteArray),v0 = .int .i64 x0_1∧v3 = .string x3_1∧Aside0 (laws_markText.l0 kq x0_1 x3_1=some r)∧Aside0 (kq≤k)∧Aside0 (Below w.heap.size w w'))
  case atStart=>exact ⟨(a0),((⟨#[]⟩:ByteArray)),qz9,qz9,H',⟨Nat.le_refl _⟩,⟨qz3⟩⟩
  case round=>
   clear H'
   try clear c2
   try clear c2b0
   try clear p2
   obtain ⟨x0_1,x3_1,rfl,rfl,HA,HK1,HB⟩:=hrel
   cases gk with
   | zero=>exact absurd HA.out (by simp [laws_markText.l0])
   | succ k1=>
    have H:=HA.out
    clear HA
    simp only [laws_markText.l0] at H
    by_cases c3:x0_1 > 0
    ·rw [if_pos c3] at H
     have c3b0:decide (0<x0_1)=true:=decide_eq_true c3
     clear c3
     obtain ⟨y287,hy287⟩:∃ y_:List Int,y_=(([(wrap64 (48+(Int.tmod x0_1 10))) % 256]:List Int)):=⟨_,rfl⟩
     replace H:(if (strOfNums y287).size+x3_1.size≤9223372036854775807 then (laws_markText.l0 k1 (wrap64 (Int.tdiv x0_1 10)) ((strOfNums y287)++x3_1)) else (none))=some r:=by first|(rw [hy287];exact H)|exact H
     have Ny287:=Aside0.mk hy287
     clear hy287
     by_cases c4:(strOfNums y287).size+x3_1.size≤9223372036854775807
     ·rw [if_pos c4] at H
      have c4b0:=eq_true c4
      have c4b1:decide ((strOfNums y287).size+x3_1.size≤9223372036854775807)=true:=decide_eq_true c4
      try have c4b2:(9223372036854775807<(strOfNums y287).size+x3_1.size)=False:=eq_false (Nat.not_lt.2 c4)
      have H':=Aside0.mk H
      clear H
      go_wp2_with (first|((with_reducible refine gate_dst (N:=12) rfl ?_);refine Kd.R_lit (Kd.int .u8) _ 5 ?hg (N:=12) ?hd (xs:=([(wrap64 (48+(Int.tmod x0_1 10))) % 256]:List Int)) (inner:=[.int .u8 ((wrap64 (48+(Int.tmod x0_1 10))) % 256)]) (ok:=fun _=>True) (okp:=fun _=>True) ?hr ?hp (fun _ hk=>hk) trivial (Below.refl _ _) (Nat.le_refl _) (by simp) ?_;(case hd=>rfl);(case hg=>rfl);(case hr=>first|(go_simp;done)|(go_simp;rfl));(case hp=>exact (Reps.one (show Kd.M (Kd.int .u8) _ _ _ ((wrap64 (48+(Int.tmod x0_1 10))) % 256) [.int .u8 ((wrap64 (48+(Int.tmod x0_1 10))) % 256)] from rfl) (Reps.none _ _)));intro v288 w5 ho6 hb hg_ hnew_;clear hg_ hnew_;(first|rw [← Ny287.out] at ho6|(simp only [Int.reduceToNat] at ho6;rw [← Ny287.out] at ho6));have n0_:=Aside0.mk (Kd.R_lower ho6 (below_size qz1));have n1_:=Aside0.mk (below_step qz1 hb);clear HB;have HO289:=n0_;have HB:=n1_;clear n0_ n1_ hb ho6;have hcv7:=own_string (P:=Tryz.prog) Tryz.underlying30 Tryz.underlying5 Tryz.underlying9 (Kd.own_of_R HO289.out)))
      go_roundg k1
      case measure=>have:=HK1.out;omega
      case rel=>exact ⟨(wrap64 (Int.tdiv x0_1 10)),((strOfNums y287)++x3_1),qz9,qz9,H',⟨by have:=HK1.out;omega⟩,⟨qz3⟩⟩
     ·rw [if_neg c4] at H
      exact absurd H (by simp)
    ·rw [if_neg c3] at H
     have c3b0:decide (0<x0_1)=false:=decide_eq_false c3
     clear c3
     by_cases c8:1+x3_1.size≤9223372036854775807
     ·rw [if_pos c8] at H
      have c8b0:=eq_true c8
      have c8b1:decide (1+x3_1.size≤9223372036854775807)=true:=decide_eq_true c8
      try have c8b2:(9223372036854775807<1+x3_1.size)=False:=eq_false (Nat.not_lt.2 c8)
      obtain rfl:=Option.some.inj H
      go_wp2
      go_ret
      exact ⟨qz4,qz3⟩
     ·rw [if_neg c8] at H
      exact absurd H (by simp)

end Go.Proofs.YtlhniagacegbeaaGreatDoor.P
