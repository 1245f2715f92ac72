/- Contracts of functions of the program: each as a Lean function, and that its call does what that says; printed by cprint.py (this session) over print.py of the kit. Conditions: the hypotheses of each theorem. -/
import Derived.Test.YtlaicnoikeieeaaDoorVZ
import Derived.Test.YtlaicnoikeieeaaDoorP0
import Derived.Test.YtlaicnoikeieeaaDoorP6
namespace Go.Proofs.YtlaicnoikeieeaaDoor.P
open Go.RowKit Go.Proofs.YtlaicnoikeieeaaDoorW.PrintWords Go.Proofs.YtlaicnoikeieeaaDoorW.PrintLast Go.Proofs.YtlaicnoikeieeaaDoorW.PrintMore
attribute [local go_sem] max2_int min2_int max_two min_two max_three min_three max_four min_four   -- for this text's walks alone
set_option linter.unusedVariables false
set_option linter.unusedSimpArgs false

/-! ### spec_l1Cell: function 67 -/
def spec_l1Cell.f (k:Nat) (a0_0:Int) (a0_1:Int) (a0_2:ByteArray):Option (Bool):=if a0_0=1 then ((spec_l1In.f a0_1 0 99999).bind fun t200=>(if t200=true then (some (a0_2.toList == ([]:List UInt8))) else (some false))) else (if a0_0=2 then ((spec_l1In.f a0_1 (-9999) 9999).bind fun t201=>(if t201=true then (some (a0_2.toList == ([]:List UInt8))) else (some false))) else (if a0_0=3 then ((spec_l1In.f a0_1 0 3).bind fun t202=>(if t202=true then ((spec_l1Name.f k a0_2).bind fun t203=>(some t203)) else (some false))) else (some false)))
set_option maxHeartbeats 8000000 in
set_option maxRecDepth 100000 in
theorem spec_l1Cell.calls (k:Nat) (a0_0:Int) (a0_1:Int) (a0_2:ByteArray) (r:Bool) (w:World) (h:spec_l1Cell.f k a0_0 a0_1 a0_2=some r) :
  Calls Tryd.prog 67 #[.agg #[.int .i64 a0_0,.int .i64 a0_1,.string a0_2]] w fun e w'=>e = .returned (.bool r)∧Below w.heap.size w w':=by
 have hu46:=Tryd.underlying46
 have HB:=Aside0.mk (Below.refl w.heap.size w)
 have H:(if a0_0=1 then ((spec_l1In.f a0_1 0 99999).bind fun t200=>(if t200=true then (some (a0_2.toList == ([]:List UInt8))) else (some false))) else (if a0_0=2 then ((spec_l1In.f a0_1 (-9999) 9999).bind fun t201=>(if t201=true then (some (a0_2.toList == ([]:List UInt8))) else (some false))) else (if a0_0=3 then ((spec_l1In.f a0_1 0 3).bind fun t202=>(if t202=true then ((spec_l1Name.f k a0_2).bind fun t203=>(some t203)) else (some false))) else (some false))))=some r:=h
 clear h
 by_cases c2:a0_0=1
 ·rw [if_pos c2] at H
  have c2b0:(a0_0 == 1)=true:=beq_iff_eq.mpr c2
  have c2b1:(a0_0 != 1)=false:=bne_eq_false_iff_eq.mpr c2
  clear c2
  replace H:=Option.bind_eq_some_iff.mp H
  obtain ⟨t200,A30,H⟩:=H
  try dsimp only at H
  have A3:=Aside0.mk A30
  clear A30
  by_cases c4:t200=true
  ·subst c4
   have H1:(some (a0_2.toList == ([]:List UInt8)))=some r:=qz32
   clear H
   have H:=H1
   clear H1
   obtain rfl:=Option.some.inj H
   go_enter Tryd.func67,Tryd.ntmps67
   go_wp2_with (first|((with_reducible refine gate_dst (N:=1) rfl ?_);refine box_event ?hg (N:=1) ?hd (cs:=#[.int .i64 a0_0,.int .i64 a0_1,.string a0_2]) (t:=46) ?hr ?_;(case hd=>rfl);(case hg=>rfl);(case hr=>first|(go_simp;done)|(go_simp;rfl));intro gb199 hg w5 hbox hb;have n0_:=Aside0.mk (below_step qz1 hb);have n1_:=Aside0.mk (hbox);have n2_:=Aside0.mk ((by rw [hg];exact (below_size qz1):w.heap.size≤gb199));have n3_:=Aside0.mk ((by rw [hg];exact (below_size qz1):w.heap.size≤gb199));clear HB;have HB:=n0_;have BK199:=n1_;have GW199:=n2_;have GE199:=n3_;clear n0_ n1_ n2_ n3_ hb hbox hg;have hcz6_0:w5.cell? ⟨gb199,0,none⟩=some (.int .i64 a0_0):=(blk_cell BK199.out 0).trans rfl;have hcz6_1:w5.cell? ⟨gb199,1,none⟩=some (.int .i64 a0_1):=(blk_cell BK199.out 1).trans rfl;have hcz6_2:w5.cell? ⟨gb199,2,none⟩=some (.string a0_2):=(blk_cell BK199.out 2).trans rfl;have hfz6_0:=blk_frozen BK199.out 0;have hfz6_1:=blk_frozen BK199.out 1;have hfz6_2:=blk_frozen BK199.out 2)|(go_at_call 57;(with_reducible refine (spec_l1In.calls a0_1 0 99999 true _ A3.out).mono ?_);rintro e w' ⟨rfl,⟨nd,rfl⟩⟩))
   go_ret
   exact ⟨qz4,qz19⟩
  ·replace c4:=Bool.eq_false_iff.mpr c4
   subst c4
   have H1:(some false)=some r:=qz15
   clear H
   have H:=H1
   clear H1
   obtain rfl:=Option.some.inj H
   go_enter Tryd.func67,Tryd.ntmps67
   go_wp2_with (first|((with_reducible refine gate_dst (N:=1) rfl ?_);refine box_event ?hg (N:=1) ?hd (cs:=#[.int .i64 a0_0,.int .i64 a0_1,.string a0_2]) (t:=46) ?hr ?_;(case hd=>rfl);(case hg=>rfl);(case hr=>first|(go_simp;done)|(go_simp;rfl));intro gb199 hg w7 hbox hb;have n0_:=Aside0.mk (below_step qz1 hb);have n1_:=Aside0.mk (hbox);have n2_:=Aside0.mk ((by rw [hg];exact (below_size qz1):w.heap.size≤gb199));have n3_:=Aside0.mk ((by rw [hg];exact (below_size qz1):w.heap.size≤gb199));clear HB;have HB:=n0_;have BK199:=n1_;have GW199:=n2_;have GE199:=n3_;clear n0_ n1_ n2_ n3_ hb hbox hg;have hcz8_0:w7.cell? ⟨gb199,0,none⟩=some (.int .i64 a0_0):=(blk_cell BK199.out 0).trans rfl;have hcz8_1:w7.cell? ⟨gb199,1,none⟩=some (.int .i64 a0_1):=(blk_cell BK199.out 1).trans rfl;have hcz8_2:w7.cell? ⟨gb199,2,none⟩=some (.string a0_2):=(blk_cell BK199.out 2).trans rfl;have hfz8_0:=blk_frozen BK199.out 0;have hfz8_1:=blk_frozen BK199.out 1;have hfz8_2:=blk_frozen BK199.out 2)|(go_at_call 57;(with_reducible refine (spec_l1In.calls a0_1 0 99999 false _ A3.out).mono ?_);rintro e w' ⟨rfl,⟨nd,rfl⟩⟩))
   go_ret
   exact ⟨qz4,qz19⟩
 ·rw [if_neg c2] at H
  have c2b0:(a0_0 == 1)=false:=beq_eq_false_iff_ne.mpr c2
  have c2b1:(a0_0 != 1)=true:=bne_iff_ne.mpr c2
  by_cases c9:a0_0=2
  ·rw [if_pos c9] at H
   have c9b0:(a0_0 == 2)=true:=beq_iff_eq.mpr c9
   have c9b1:(a0_0 != 2)=false:=bne_eq_false_iff_eq.mpr c9
   clear c9
   replace H:=Option.bind_eq_some_iff.mp H
   obtain ⟨t201,A100,H⟩:=H
   try dsimp only at H
   have A10:=Aside0.mk A100
   clear A100
   by_cases c11:t201=true
   ·subst c11
    have H1:(some (a0_2.toList == ([]:List UInt8)))=some r:=qz32
    clear H
    have H:=H1
    clear H1
    obtain rfl:=Option.some.inj H
    go_enter Tryd.func67,Tryd.ntmps67
    go_wp2_with (first|((with_reducible refine gate_dst (N:=1) rfl ?_);refine box_event ?hg (N:=1) ?hd (cs:=#[.int .i64 a0_0,.int .i64 a0_1,.string a0_2]) (t:=46) ?hr ?_;(case hd=>rfl);(case hg=>rfl);(case hr=>first|(go_simp;done)|(go_simp;rfl));intro gb199 hg w12 hbox hb;have n0_:=Aside0.mk (below_step qz1 hb);have n1_:=Aside0.mk (hbox);have n2_:=Aside0.mk ((by rw [hg];exact (below_size qz1):w.heap.size≤gb199));have n3_:=Aside0.mk ((by rw [hg];exact (below_size qz1):w.heap.size≤gb199));clear HB;have HB:=n0_;have BK199:=n1_;have GW199:=n2_;have GE199:=n3_;clear n0_ n1_ n2_ n3_ hb hbox hg;have hcz13_0:w12.cell? ⟨gb199,0,none⟩=some (.int .i64 a0_0):=(blk_cell BK199.out 0).trans rfl;have hcz13_1:w12.cell? ⟨gb199,1,none⟩=some (.int .i64 a0_1):=(blk_cell BK199.out 1).trans rfl;have hcz13_2:w12.cell? ⟨gb199,2,none⟩=some (.string a0_2):=(blk_cell BK199.out 2).trans rfl;have hfz13_0:=blk_frozen BK199.out 0;have hfz13_1:=blk_frozen BK199.out 1;have hfz13_2:=blk_frozen BK199.out 2)|(go_at_call 57;(with_reducible refine (spec_l1In.calls a0_1 (-9999) 9999 true _ A10.out).mono ?_);rintro e w' ⟨rfl,⟨nd,rfl⟩⟩))
    go_ret
    exact ⟨qz4,qz19⟩
   ·replace c11:=Bool.eq_false_iff.mpr c11
    subst c11
    have H1:(some false)=some r:=qz15
    clear H
    have H:=H1
    clear H1
    obtain rfl:=Option.some.inj H
    go_enter Tryd.func67,Tryd.ntmps67
    go_wp2_with (first|((with_reducible refine gate_dst (N:=1) rfl ?_);refine box_event ?hg (N:=1) ?hd (cs:=#[.int .i64 a0_0,.int .i64 a0_1,.string a0_2]) (t:=46) ?hr ?_;(case hd=>rfl);(case hg=>rfl);(case hr=>first|(go_simp;done)|(go_simp;rfl));intro gb199 hg w14 hbox hb;have n0_:=Aside0.mk (below_step qz1 hb);have n1_:=Aside0.mk (hbox);have n2_:=Aside0.mk ((by rw [hg];exact (below_size qz1):w.heap.size≤gb199));have n3_:=Aside0.mk ((by rw [hg];exact (below_size qz1):w.heap.size≤gb199));clear HB;have HB:=n0_;have BK199:=n1_;have GW199:=n2_;have GE199:=n3_;clear n0_ n1_ n2_ n3_ hb hbox hg;have hcz15_0:w14.cell? ⟨gb199,0,none⟩=some (.int .i64 a0_0):=(blk_cell BK199.out 0).trans rfl;have hcz15_1:w14.cell? ⟨gb199,1,none⟩=some (.int .i64 a0_1):=(blk_cell BK199.out 1).trans rfl;have hcz15_2:w14.cell? ⟨gb199,2,none⟩=some (.string a0_2):=(blk_cell BK199.out 2).trans rfl;have hfz15_0:=blk_frozen BK199.out 0;have hfz15_1:=blk_frozen BK199.out 1;have hfz15_2:=blk_frozen BK199.out 2)|(go_at_call 57;(with_reducible refine (spec_l1In.calls a0_1 (-9999) 9999 false _ A10.out).mono ?_);rintro e w' ⟨rfl,⟨nd,rfl⟩⟩))
    go_ret
    exact ⟨qz4,qz19⟩
  ·rw [if_neg c9] at H
   have c9b0:(a0_0 == 2)=false:=beq_eq_false_iff_ne.mpr c9
   have c9b1:(a0_0 != 2)=true:=bne_iff_ne.mpr c9
   by_cases c16:a0_0=3
   ·rw [if_pos c16] at H
    have c16b0:(a0_0 == 3)=true:=beq_iff_eq.mpr c16
    have c16b1:(a0_0 != 3)=false:=bne_eq_false_iff_eq.mpr c16
    clear c16
    replace H:=Option.bind_eq_some_iff.mp H
    obtain ⟨t202,A170,H⟩:=H
    try dsimp only at H
    have A17:=Aside0.mk A170
    clear A170
    by_cases c18:t202=true
    ·subst c18
     have H1:((spec_l1Name.f k a0_2).bind fun t203=>(some t203))=some r:=qz32
     clear H
     have H:=H1
     clear H1
     replace H:=Option.bind_eq_some_iff.mp H
     obtain ⟨t203,A190,H⟩:=H
     try dsimp only at H
     have A19:=Aside0.mk A190
     clear A190
     obtain rfl:=Option.some.inj H
     go_enter Tryd.func67,Tryd.ntmps67
     go_wp2_with (first|((with_reducible refine gate_dst (N:=1) rfl ?_);refine box_event ?hg (N:=1) ?hd (cs:=#[.int .i64 a0_0,.int .i64 a0_1,.string a0_2]) (t:=46) ?hr ?_;(case hd=>rfl);(case hg=>rfl);(case hr=>first|(go_simp;done)|(go_simp;rfl));intro gb199 hg w20 hbox hb;have n0_:=Aside0.mk (below_step qz1 hb);have n1_:=Aside0.mk (hbox);have n2_:=Aside0.mk ((by rw [hg];exact (below_size qz1):w.heap.size≤gb199));have n3_:=Aside0.mk ((by rw [hg];exact (below_size qz1):w.heap.size≤gb199));clear HB;have HB:=n0_;have BK199:=n1_;have GW199:=n2_;have GE199:=n3_;clear n0_ n1_ n2_ n3_ hb hbox hg;have hcz21_0:w20.cell? ⟨gb199,0,none⟩=some (.int .i64 a0_0):=(blk_cell BK199.out 0).trans rfl;have hcz21_1:w20.cell? ⟨gb199,1,none⟩=some (.int .i64 a0_1):=(blk_cell BK199.out 1).trans rfl;have hcz21_2:w20.cell? ⟨gb199,2,none⟩=some (.string a0_2):=(blk_cell BK199.out 2).trans rfl;have hfz21_0:=blk_frozen BK199.out 0;have hfz21_1:=blk_frozen BK199.out 1;have hfz21_2:=blk_frozen BK199.out 2)|(go_at_call 57;(with_reducible refine (spec_l1In.calls a0_1 0 3 true _ A17.out).mono ?_);rintro e w' ⟨rfl,⟨nd,rfl⟩⟩)|(go_at_call 93;(with_reducible refine (spec_l1Name.calls k a0_2 t203 _ A19.out).mono ?_);rintro e w' ⟨rfl,⟨nd,rfl⟩⟩))
     go_ret
     exact ⟨qz4,qz19⟩
    ·replace c18:=Bool.eq_false_iff.mpr c18
     subst c18
     have H1:(some false)=some r:=qz15
     clear H
     have H:=H1
     clear H1
     obtain rfl:=Option.some.inj H
     go_enter Tryd.func67,Tryd.ntmps67
     go_wp2_with (first|((with_reducible refine gate_dst (N:=1) rfl ?_);refine box_event ?hg (N:=1) ?hd (cs:=#[.int .i64 a0_0,.int .i64 a0_1,.string a0_2]) (t:=46) ?hr ?_;(case hd=>rfl);(case hg=>rfl);(case hr=>first|(go_simp;done)|(go_simp;rfl));intro gb199 hg w22 hbox hb;have n0_:=Aside0.mk (below_step qz1 hb);have n1_:=Aside0.mk (hbox);have n2_:=Aside0.mk ((by rw [hg];exact (below_size qz1):w.heap.size≤gb199));have n3_:=Aside0.mk ((by rw [hg];exact (below_size qz1):w.heap.size≤gb199));clear HB;have HB:=n0_;have BK199:=n1_;have GW199:=n2_;have GE199:=n3_;clear n0_ n1_ n2_ n3_ hb hbox hg;have hcz23_0:w22.cell? ⟨gb199,0,none⟩=some (.int .i64 a0_0):=(blk_cell BK199.out 0).trans rfl;have hcz23_1:w22.cell? ⟨gb199,1,none⟩=some (.int .i64 a0_1):=(blk_cell BK199.out 1).trans rfl;have hcz23_2:w22.cell? ⟨gb199,2,none⟩=some (.string a0_2):=(blk_cell BK199.out 2).trans rfl;have hfz23_0:=blk_frozen BK199.out 0;have hfz23_1:=blk_frozen BK199.out 1;have hfz23_2:=blk_frozen BK199.out 2)|(go_at_call 57;(with_reducible refine (spec_l1In.calls a0_1 0 3 false _ A17.out).mono ?_);rintro e w' ⟨rfl,⟨nd,rfl⟩⟩))
     go_ret
     exact ⟨qz4,qz19⟩
   ·rw [if_neg c16] at H
    have c16b0:(a0_0 == 3)=false:=beq_eq_false_iff_ne.mpr c16
    have c16b1:(a0_0 != 3)=true:=bne_iff_ne.mpr c16
    obtain rfl:=Option.some.inj H
    go_enter Tryd.func67,Tryd.ntmps67
    go_wp2_with (first|((with_reducible refine gate_dst (N:=1) rfl ?_);refine box_event ?hg (N:=1) ?hd (cs:=#[.int .i64 a0_0,.int .i64 a0_1,.string a0_2]) (t:=46) ?hr ?_;(case hd=>rfl);(case hg=>rfl);(case hr=>first|(go_simp;done)|(go_simp;rfl));intro gb199 hg w24 hbox hb;have n0_:=Aside0.mk (below_step qz1 hb);have n1_:=Aside0.mk (hbox);have n2_:=Aside0.mk ((by rw [hg];exact (below_size qz1):w.heap.size≤gb199));have n3_:=Aside0.mk ((by rw [hg];exact (below_size qz1):w.heap.size≤gb199));clear HB;have HB:=n0_;have BK199:=n1_;have GW199:=n2_;have GE199:=n3_;clear n0_ n1_ n2_ n3_ hb hbox hg;have hcz25_0:w24.cell? ⟨gb199,0,none⟩=some (.int .i64 a0_0):=(blk_cell BK199.out 0).trans rfl;have hcz25_1:w24.cell? ⟨gb199,1,none⟩=some (.int .i64 a0_1):=(blk_cell BK199.out 1).trans rfl;have hcz25_2:w24.cell? ⟨gb199,2,none⟩=some (.string a0_2):=(blk_cell BK199.out 2).trans rfl;have hfz25_0:=blk_frozen BK199.out 0;have hfz25_1:=blk_frozen BK199.out 1;have hfz25_2:=blk_frozen BK199.out 2))
    go_ret
    exact ⟨qz4,qz19⟩

/-! ### spec_l1End: function 68 -/
mutual
def spec_l1End.l0:Nat→List (S46)→Int→Int→Option (Int)
 | 0,_,_,_=>none
 | k+1,x0,x5,x6=>if x5 > 0 then (if x6<0 then (spec_l1End.j1 k x0 x5 x6 true) else (spec_l1End.j1 k x0 x5 x6 (decide (x6≥(x0.length:Int))))) else (some x6)
def spec_l1End.j1:Nat→List (S46)→Int→Int→Bool→Option (Int)
 | 0,_,_,_,_=>none
 | k+1,x0,x5,x6,x17=>if x17=true then (some (-1)) else (if 0≤x6 then (if x6<(x0.length:Int) then (if ((rd_T46 x0 x6).f0)=3 then (spec_l1End.l0 k x0 (wrap64 ((wrap64 (x5 - 1))+((rd_T46 x0 x6).f1))) (wrap64 (x6+1))) else (spec_l1End.l0 k x0 (wrap64 (x5 - 1)) (wrap64 (x6+1)))) else (none)) else (none))
end
def spec_l1End.f (k:Nat) (l0:List (S46)) (a1:Int):Option (Int):=spec_l1End.l0 k l0 1 a1
set_option maxHeartbeats 8000000 in
set_option maxRecDepth 100000 in
theorem spec_l1End.calls (k:Nat) (A0:Option Addr) (c0:Nat) (l0:List (S46)) (a1:Int) (r:Int) (w:World) (hr0:Kd.C k46 w A0 l0.length l0) (hc0:l0.length≤c0) (h:spec_l1End.f k l0 a1=some r) :
  Calls Tryd.prog 68 #[.slice A0 l0.length c0,.int .i64 a1] w fun e w'=>e = .returned (.int .i64 r)∧Drawn0 w w':=by
 have HR0:=Aside0.mk hr0
 have HC0:=Aside0.mk hc0
 clear hr0 hc0
 have H:(spec_l1End.l0 k l0 1 a1)=some r:=h
 clear h
 have H':=Aside0.mk H
 clear H
 go_enter Tryd.func68,Tryd.ntmps68
 go_wp2
 go_loopg [5,6] k (fun kq v5 v6 w'=>∃ (x5_1:Int) (x6_1:Int),v5 = .int .i64 x5_1∧v6 = .int .i64 x6_1∧Aside0 (spec_l1End.l0 kq l0 x5_1 x6_1=some r)∧Aside0 (kq≤k)∧Drawn0 w w')
 case atStart=>exact ⟨(1),(a1),qz6,qz6,H',⟨Nat.le_refl _⟩,qz12⟩
 case round=>
  clear H'
  try clear p2
  obtain ⟨x5_1,x6_1,rfl,rfl,HA,HK1,⟨m1,rfl⟩⟩:=hrel
  cases gk with
  | zero=>exact absurd HA.out (by simp [spec_l1End.l0])
  | succ k1=>
   have H:=HA.out
   clear HA
   simp only [spec_l1End.l0] at H
   by_cases c3:x5_1 > 0
   ·rw [if_pos c3] at H
    have c3b0:decide (0<x5_1)=true:=decide_eq_true c3
    clear c3
    have HC4:=Aside0.mk H
    clear H
    go_upto_region 4 with (fail)
    go_cut [17] (fun v17 wc=>∃ (kq:Nat) (x17_3:Bool),v17 = .bool x17_3∧Aside0 (spec_l1End.j1 kq l0 x5_1 x6_1 x17_3=some r)∧Aside0 (kq≤k1)∧Drawn0 w wc)
    case first=>
     have H:=HC4.out
     clear HC4
     by_cases c5:x6_1<0
     ·rw [if_pos c5] at H
      have c5b0:decide (x6_1<0)=true:=decide_eq_true c5
      clear c5
      (first|rw [c5b0]|(simp only [i64_w,i32_w];rw [c5b0])|skip)
      have H':=Aside0.mk H
      clear H
      go_wp2
      go_meet
      case rel=>exact ⟨_,(true),qz6,H',⟨qz46⟩,qz12⟩
     ·rw [if_neg c5] at H
      have c5b0:decide (x6_1<0)=false:=decide_eq_false c5
      clear c5
      (first|rw [c5b0]|(simp only [i64_w,i32_w];rw [c5b0])|skip)
      have H':=Aside0.mk H
      clear H
      go_wp2
      go_meet
      case rel=>exact ⟨_,(decide (x6_1≥(l0.length:Int))),qz6,H',⟨qz46⟩,qz12⟩
    case rest=>
     clear HC4
     try clear p2
     try clear c3
     try clear c3b0
     try clear c5
     try clear c5b0
     try clear p2
     obtain ⟨kq,x17_3,rfl,HA,HJ3,⟨mc3,rfl⟩⟩:=hcut
     cases kq with
     | zero=>exact absurd HA.out (by simp [spec_l1End.j1])
     | succ kj3=>
      have H:=HA.out
      clear HA
      simp only [spec_l1End.j1] at H
      by_cases c6:x17_3=true
      ·subst c6
       have H1:(some (-1))=some r:=qz32
       clear H
       have H:=H1
       clear H1
       obtain rfl:=Option.some.inj H
       go_wp2
       go_ret
       exact ⟨qz6,qz12⟩
      ·replace c6:=Bool.eq_false_iff.mpr c6
       subst c6
       have H1:(if 0≤x6_1 then (if x6_1<(l0.length:Int) then (if ((rd_T46 l0 x6_1).f0)=3 then (spec_l1End.l0 kj3 l0 (wrap64 ((wrap64 (x5_1 - 1))+((rd_T46 l0 x6_1).f1))) (wrap64 (x6_1+1))) else (spec_l1End.l0 kj3 l0 (wrap64 (x5_1 - 1)) (wrap64 (x6_1+1)))) else (none)) else (none))=some r:=qz15
       clear H
       have H:=H1
       clear H1
       by_cases c7:0≤x6_1
       ·rw [if_pos c7] at H
        have c7b0:decide (0≤x6_1)=true:=decide_eq_true c7
        clear c7
        by_cases c8:x6_1<(l0.length:Int)
        ·rw [if_pos c8] at H
         have c8b0:decide (x6_1<(l0.length:Int))=true:=decide_eq_true c8
         clear c8
         by_cases c9:((rd_T46 l0 x6_1).f0)=3
         ·rw [if_pos c9] at H
          have c9b0:(((rd_T46 l0 x6_1).f0) == 3)=true:=beq_iff_eq.mpr c9
          have c9b1:(((rd_T46 l0 x6_1).f0) != 3)=false:=bne_eq_false_iff_eq.mpr c9
          clear c9
          have H':=Aside0.mk H
          clear H
          have p204:0≤(x6_1:Int):=of_decide_eq_true qz3
          have q204:x6_1<(l0.length:Int):=of_decide_eq_true qz3
          obtain ⟨ad204,e204,hx204_0,hx204_1,hx204_2⟩:=at_T46 HR0.out x6_1 p204 q204
          cases e204
          replace p204:=eq_true p204
          replace q204:=eq_true q204
          have p205:0≤(x6_1:Int):=of_decide_eq_true qz3
          have q205:x6_1<(l0.length:Int):=of_decide_eq_true qz3
          obtain ⟨ad205,e205,hx205_0,hx205_1,hx205_2⟩:=at_T46 HR0.out x6_1 p205 q205
          obtain rfl:ad204=ad205:=(by injection e205)
          replace p205:=eq_true p205
          replace q205:=eq_true q205
          go_wp2
          go_roundg kj3
          case measure=>have:=HK1.out;have:=HJ3.out;omega
          case rel=>exact ⟨(wrap64 ((wrap64 (x5_1 - 1))+((rd_T46 l0 x6_1).f1))),(wrap64 (x6_1+1)),qz6,qz6,H',⟨by have:=HK1.out;have:=HJ3.out;omega⟩,qz12⟩
         ·rw [if_neg c9] at H
          have c9b0:(((rd_T46 l0 x6_1).f0) == 3)=false:=beq_eq_false_iff_ne.mpr c9
          have c9b1:(((rd_T46 l0 x6_1).f0) != 3)=true:=bne_iff_ne.mpr c9
          have H':=Aside0.mk H
          clear H
          have p204:0≤(x6_1:Int):=of_decide_eq_true qz3
          have q204:x6_1<(l0.length:Int):=of_decide_eq_true qz3
          obtain ⟨ad204,e204,hx204_0,hx204_1,hx204_2⟩:=at_T46 HR0.out x6_1 p204 q204
          cases e204
          replace p204:=eq_true p204
          replace q204:=eq_true q204
          go_wp2
          go_roundg kj3
          case measure=>have:=HK1.out;have:=HJ3.out;omega
          case rel=>exact ⟨(wrap64 (x5_1 - 1)),(wrap64 (x6_1+1)),qz6,qz6,H',⟨by have:=HK1.out;have:=HJ3.out;omega⟩,qz12⟩
        ·rw [if_neg c8] at H
         exact absurd H (by simp)
       ·rw [if_neg c7] at H
        exact absurd H (by simp)
   ·rw [if_neg c3] at H
    have c3b0:decide (0<x5_1)=false:=decide_eq_false c3
    clear c3
    obtain rfl:=Option.some.inj H
    go_wp2
    go_ret
    exact ⟨qz6,qz12⟩

/-! ### spec_TrmOk: function 30 -/
mutual
def spec_TrmOk.j0:Nat→List (S46)→Bool→Option (Bool)
 | 0,_,_=>none
 | k+1,x0,x11=>if x11=true then (some false) else (spec_TrmOk.l0 k x0 0)
def spec_TrmOk.l0:Nat→List (S46)→Int→Option (Bool)
 | 0,_,_=>none
 | k+1,x0,x3=>if x3<(x0.length:Int) then (if 0≤x3 then ((spec_l1Cell.f k ((rd_T46 x0 x3).f0) ((rd_T46 x0 x3).f1) ((rd_T46 x0 x3).f2)).bind fun t208=>(if t208=true then (spec_TrmOk.l0 k x0 (wrap64 (x3+1))) else (some false))) else (none)) else ((spec_l1End.f k x0 0).bind fun t206=>(some (t206 == (x0.length:Int))))
end
def spec_TrmOk.f (k:Nat) (l0:List (S46)):Option (Bool):=if (l0.length:Int)=0 then (spec_TrmOk.j0 k l0 true) else (spec_TrmOk.j0 k l0 (decide ((l0.length:Int) > 40)))
set_option maxHeartbeats 8000000 in
set_option maxRecDepth 100000 in
theorem spec_TrmOk.calls (k:Nat) (A0:Option Addr) (c0:Nat) (l0:List (S46)) (r:Bool) (w:World) (hr0:Kd.C k46 w A0 l0.length l0) (hc0:l0.length≤c0) (h:spec_TrmOk.f k l0=some r) :
  Calls Tryd.prog 30 #[.slice A0 l0.length c0] w fun e w'=>e = .returned (.bool r)∧Below w.heap.size w w':=by
 have hu46:=Tryd.underlying46
 have HR0:=Aside0.mk hr0
 have HC0:=Aside0.mk hc0
 clear hr0 hc0
 have HB:=Aside0.mk (Below.refl w.heap.size w)
 have H:(if (l0.length:Int)=0 then (spec_TrmOk.j0 k l0 true) else (spec_TrmOk.j0 k l0 (decide ((l0.length:Int) > 40))))=some r:=h
 clear h
 have HC2:=Aside0.mk H
 clear H
 go_enter Tryd.func30,Tryd.ntmps30
 go_upto_region 1 with (fail)
 go_cut [11] (fun v11 wc=>∃ (kq:Nat) (x11_1:Bool),v11 = .bool x11_1∧Aside0 (spec_TrmOk.j0 kq l0 x11_1=some r)∧Aside0 (kq≤k)∧Aside0 (Below w.heap.size w wc))
 case first=>
  have H:=HC2.out
  clear HC2
  by_cases c3:(l0.length:Int)=0
  ·rw [if_pos c3] at H
   have c3b0:((l0.length:Int) == 0)=true:=beq_iff_eq.mpr c3
   have c3b1:((l0.length:Int) != 0)=false:=bne_eq_false_iff_eq.mpr c3
   clear c3
   (first|rw [c3b0]|(simp only [i64_w,i32_w];rw [c3b0])|skip)
   have H':=Aside0.mk H
   clear H
   go_wp2
   go_meet
   case rel=>exact ⟨_,(true),qz6,H',⟨qz50⟩,⟨qz2⟩⟩
  ·rw [if_neg c3] at H
   have c3b0:((l0.length:Int) == 0)=false:=beq_eq_false_iff_ne.mpr c3
   have c3b1:((l0.length:Int) != 0)=true:=bne_iff_ne.mpr c3
   have c3b2:¬ (l0=[]):=fun h_=>c3 (by rw [h_];rfl)
   (first|rw [c3b0]|(simp only [i64_w,i32_w];rw [c3b0])|skip)
   have H':=Aside0.mk H
   clear H
   go_wp2
   go_meet
   case rel=>exact ⟨_,(decide ((l0.length:Int) > 40)),qz6,H',⟨qz50⟩,⟨qz2⟩⟩
 case rest=>
  clear HC2
  try clear p2
  try clear c3
  try clear c3b0
  try clear c3b1
  try clear c3b2
  obtain ⟨kq,x11_1,rfl,HA,HJ1,HB⟩:=hcut
  cases kq with
  | zero=>exact absurd HA.out (by simp [spec_TrmOk.j0])
  | succ kj1=>
   have H:=HA.out
   clear HA
   simp only [spec_TrmOk.j0] at H
   by_cases c4:x11_1=true
   ·subst c4
    have H1:(some false)=some r:=qz32
    clear H
    have H:=H1
    clear H1
    obtain rfl:=Option.some.inj H
    go_wp2
    go_ret
    exact ⟨qz4,qz2⟩
   ·replace c4:=Bool.eq_false_iff.mpr c4
    subst c4
    have H1:(spec_TrmOk.l0 kj1 l0 0)=some r:=qz15
    clear H
    have H:=H1
    clear H1
    have H':=Aside0.mk H
    clear H
    go_wp2
    go_loopg [3] kj1 (fun kq v3 w'=>∃ (x3_2:Int),v3 = .int .i64 x3_2∧Aside0 (spec_TrmOk.l0 kq l0 x3_2=some r)∧Aside0 (kq≤kj1)∧Aside0 (Below w.heap.size w w'))
    case atStart=>exact ⟨(0),qz6,H',⟨Nat.le_refl _⟩,⟨qz2⟩⟩
    case round=>
     clear H'
     try clear p2
     try clear c3
     try clear c3b0
     try clear c3b1
     try clear c3b2
     try clear c4
     try clear p2
     obtain ⟨x3_2,rfl,HA,HK2,HB⟩:=hrel
     cases gk with
     | zero=>exact absurd HA.out (by simp [spec_TrmOk.l0])
     | succ k2=>
      have H:=HA.out
      clear HA
      simp only [spec_TrmOk.l0] at H
      by_cases c5:x3_2<(l0.length:Int)
      ·rw [if_pos c5] at H
       have c5b0:decide (x3_2<(l0.length:Int))=true:=decide_eq_true c5
       clear c5
       by_cases c6:0≤x3_2
       ·rw [if_pos c6] at H
        have c6b0:decide (0≤x3_2)=true:=decide_eq_true c6
        clear c6
        replace H:=Option.bind_eq_some_iff.mp H
        obtain ⟨t208,A70,H⟩:=H
        try dsimp only at H
        have A7:=Aside0.mk A70
        clear A70
        by_cases c8:t208=true
        ·subst c8
         have H1:(spec_TrmOk.l0 k2 l0 (wrap64 (x3_2+1)))=some r:=qz32
         clear H
         have H:=H1
         clear H1
         have H':=Aside0.mk H
         clear H
         have p207:0≤(x3_2:Int):=of_decide_eq_true qz3
         have q207:x3_2<(l0.length:Int):=of_decide_eq_true qz3
         obtain ⟨ad207,e207,hx207_0,hx207_1,hx207_2⟩:=at_T46 HR0.out x3_2 p207 q207
         cases e207
         replace hx207_0:=(HB.out.cell (World.block_lt_of_cell? w _ hx207_0)).trans hx207_0
         replace hx207_1:=(HB.out.cell (World.block_lt_of_cell? w _ hx207_1)).trans hx207_1
         replace hx207_2:=(HB.out.cell (World.block_lt_of_cell? w _ hx207_2)).trans hx207_2
         replace p207:=eq_true p207
         replace q207:=eq_true q207
         go_wp2_with (first|(go_at_call 67;(with_reducible refine (spec_l1Cell.calls k2 ((rd_T46 l0 x3_2).f0) ((rd_T46 l0 x3_2).f1) ((rd_T46 l0 x3_2).f2) true _ A7.out).mono ?_);rintro e w9 ⟨rfl,hb⟩;have n0_:=Aside0.mk (below_step qz1 hb);clear HB;have HB:=n0_;clear n0_;(try clear hb);(try clear hb2);(try clear hk);(try clear hi)))
         go_roundg k2
         case measure=>have:=HJ1.out;have:=HK2.out;omega
         case rel=>exact ⟨(wrap64 (x3_2+1)),qz6,H',⟨by have:=HJ1.out;have:=HK2.out;omega⟩,⟨qz2⟩⟩
        ·replace c8:=Bool.eq_false_iff.mpr c8
         subst c8
         have H1:(some false)=some r:=qz15
         clear H
         have H:=H1
         clear H1
         obtain rfl:=Option.some.inj H
         have p207:0≤(x3_2:Int):=of_decide_eq_true qz3
         have q207:x3_2<(l0.length:Int):=of_decide_eq_true qz3
         obtain ⟨ad207,e207,hx207_0,hx207_1,hx207_2⟩:=at_T46 HR0.out x3_2 p207 q207
         cases e207
         replace hx207_0:=(HB.out.cell (World.block_lt_of_cell? w _ hx207_0)).trans hx207_0
         replace hx207_1:=(HB.out.cell (World.block_lt_of_cell? w _ hx207_1)).trans hx207_1
         replace hx207_2:=(HB.out.cell (World.block_lt_of_cell? w _ hx207_2)).trans hx207_2
         replace p207:=eq_true p207
         replace q207:=eq_true q207
         go_wp2_with (first|(go_at_call 67;(with_reducible refine (spec_l1Cell.calls k2 ((rd_T46 l0 x3_2).f0) ((rd_T46 l0 x3_2).f1) ((rd_T46 l0 x3_2).f2) false _ A7.out).mono ?_);rintro e w10 ⟨rfl,hb⟩;have n0_:=Aside0.mk (below_step qz1 hb);clear HB;have HB:=n0_;clear n0_;(try clear hb);(try clear hb2);(try clear hk);(try clear hi)))
         go_ret
         exact ⟨qz4,qz2⟩
       ·rw [if_neg c6] at H
        exact absurd H (by simp)
      ·rw [if_neg c5] at H
       have c5b0:decide (x3_2<(l0.length:Int))=false:=decide_eq_false c5
       clear c5
       replace H:=Option.bind_eq_some_iff.mp H
       obtain ⟨t206,A110,H⟩:=H
       try dsimp only at H
       have A11:=Aside0.mk A110
       clear A110
       obtain rfl:=Option.some.inj H
       go_wp2_with (first|(go_at_call 68;(with_reducible refine (spec_l1End.calls k2 _ _ l0 0 t206 _ ?side1 ?side2 A11.out).mono ?_);(case side1=>exact qz34);(case side2=>exact HC0.out);rintro e w' ⟨rfl,⟨nd,rfl⟩⟩))
       go_ret
       exact ⟨qz4,qz2⟩

/-! ### spec_l1Has: function 58 -/
def spec_l1Has.l0:Nat→List Int→Int→Int→Option (Bool)
 | 0,_,_,_=>none
 | k+1,x0,x1,x5=>if x5<(x0.length:Int) then (if 0≤x5 then (if (rd x0 x5)=x1 then (some true) else (spec_l1Has.l0 k x0 x1 (wrap64 (x5+1)))) else (none)) else (some false)
def spec_l1Has.f (k:Nat) (l0:List Int) (a1:Int):Option (Bool):=spec_l1Has.l0 k l0 a1 0
set_option maxHeartbeats 8000000 in
set_option maxRecDepth 100000 in
theorem spec_l1Has.calls (k:Nat) (A0:Option Addr) (c0:Nat) (l0:List Int) (a1:Int) (r:Bool) (w:World) (hr0:Kd.C (Kd.int .i64) w A0 l0.length l0) (hc0:l0.length≤c0) (h:spec_l1Has.f k l0 a1=some r) :
  Calls Tryd.prog 58 #[.slice A0 l0.length c0,.int .i64 a1] w fun e w'=>e = .returned (.bool r)∧Drawn0 w w':=by
 have HR0:=Aside0.mk hr0
 have HC0:=Aside0.mk hc0
 clear hr0 hc0
 have H:(spec_l1Has.l0 k l0 a1 0)=some r:=h
 clear h
 have H':=Aside0.mk H
 clear H
 go_enter Tryd.func58,Tryd.ntmps58
 go_wp2
 go_loopg [5] k (fun kq v5 w'=>∃ (x5_1:Int),v5 = .int .i64 x5_1∧Aside0 (spec_l1Has.l0 kq l0 a1 x5_1=some r)∧Aside0 (kq≤k)∧Drawn0 w w')
 case atStart=>exact ⟨(0),qz6,H',⟨Nat.le_refl _⟩,qz12⟩
 case round=>
  clear H'
  try clear p2
  obtain ⟨x5_1,rfl,HA,HK1,⟨m1,rfl⟩⟩:=hrel
  cases gk with
  | zero=>exact absurd HA.out (by simp [spec_l1Has.l0])
  | succ k1=>
   have H:=HA.out
   clear HA
   simp only [spec_l1Has.l0] at H
   by_cases c3:x5_1<(l0.length:Int)
   ·rw [if_pos c3] at H
    have c3b0:decide (x5_1<(l0.length:Int))=true:=decide_eq_true c3
    clear c3
    by_cases c4:0≤x5_1
    ·rw [if_pos c4] at H
     have c4b0:decide (0≤x5_1)=true:=decide_eq_true c4
     clear c4
     by_cases c5:(rd l0 x5_1)=a1
     ·rw [if_pos c5] at H
      have c5b0:((rd l0 x5_1) == a1)=true:=beq_iff_eq.mpr c5
      have c5b1:((rd l0 x5_1) != a1)=false:=bne_eq_false_iff_eq.mpr c5
      clear c5
      obtain rfl:=Option.some.inj H
      have p209:0≤(x5_1:Int):=of_decide_eq_true qz3
      have q209:x5_1<(l0.length:Int):=of_decide_eq_true qz3
      obtain ⟨ad209,e209,hx209_0⟩:=Kd.at_int HR0.out x5_1 p209 q209
      cases e209
      replace p209:=eq_true p209
      replace q209:=eq_true q209
      go_wp2
      go_ret
      exact ⟨qz6,qz12⟩
     ·rw [if_neg c5] at H
      have c5b0:((rd l0 x5_1) == a1)=false:=beq_eq_false_iff_ne.mpr c5
      have c5b1:((rd l0 x5_1) != a1)=true:=bne_iff_ne.mpr c5
      have H':=Aside0.mk H
      clear H
      have p209:0≤(x5_1:Int):=of_decide_eq_true qz3
      have q209:x5_1<(l0.length:Int):=of_decide_eq_true qz3
      obtain ⟨ad209,e209,hx209_0⟩:=Kd.at_int HR0.out x5_1 p209 q209
      cases e209
      replace p209:=eq_true p209
      replace q209:=eq_true q209
      go_wp2
      go_roundg k1
      case measure=>have:=HK1.out;omega
      case rel=>exact ⟨(wrap64 (x5_1+1)),qz6,H',⟨by have:=HK1.out;omega⟩,qz12⟩
    ·rw [if_neg c4] at H
     exact absurd H (by simp)
   ·rw [if_neg c3] at H
    have c3b0:decide (x5_1<(l0.length:Int))=false:=decide_eq_false c3
    clear c3
    obtain rfl:=Option.some.inj H
    go_wp2
    go_ret
    exact ⟨qz6,qz12⟩

end Go.Proofs.YtlaicnoikeieeaaDoor.P
