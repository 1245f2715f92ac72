/- Contracts of functions of the program: each as a Lean function, and that its call does what that says; printed by cprint.py (this session) over print.py of the kit. Conditions: the hypotheses of each theorem. -/
import Derived.Test.YtlhniagacegbeaaGreatDoorVZ
import Derived.Test.YtlhniagacegbeaaGreatDoorP0
import Derived.Test.YtlhniagacegbeaaGreatDoorP8
namespace Go.Proofs.YtlhniagacegbeaaGreatDoor.P
open Go.RowKit Go.Proofs.YtlhniagacegbeaaGreatDoorW.PrintWords Go.Proofs.YtlhniagacegbeaaGreatDoorW.PrintLast Go.Proofs.YtlhniagacegbeaaGreatDoorW.PrintMore
attribute [local go_sem] max2_int min2_int max_two min_two max_three min_three max_four min_four   -- for this text's walks alone
set_option linter.unusedVariables false
set_option linter.unusedSimpArgs false

/-! ### impl_TrmCell_ok: function 67 -/
def impl_TrmCell_ok.f (a0_0:Int) (a0_1:Int) (a0_2:ByteArray):Option (Bool):=if a0_0=1 then ((impl_in.f a0_1 0 99999).bind fun t215=>(if t215=true then (some (a0_2.toList == ([]:List UInt8))) else (some false))) else (if a0_0=2 then ((impl_in.f a0_1 (-9999) 9999).bind fun t216=>(if t216=true then (some (a0_2.toList == ([]:List UInt8))) else (some false))) else (if a0_0=3 then ((impl_in.f a0_1 0 3).bind fun t217=>(if t217=true then ((impl_nameOk.f a0_2).bind fun t218=>(some t218)) else (some false))) else (some false)))
set_option maxHeartbeats 8000000 in
set_option maxRecDepth 100000 in
theorem impl_TrmCell_ok.calls (a0_0:Int) (a0_1:Int) (a0_2:ByteArray) (r:Bool) (w:World) (h:impl_TrmCell_ok.f a0_0 a0_1 a0_2=some r) :
  Calls Tryz.prog 67 #[.agg #[.int .i64 a0_0,.int .i64 a0_1,.string a0_2]] w fun e w'=>e = .returned (.bool r)∧Below w.heap.size w w':=by
 have hu63:=Tryz.underlying63
 have HB:=Aside0.mk (Below.refl w.heap.size w)
 have H:(if a0_0=1 then ((impl_in.f a0_1 0 99999).bind fun t215=>(if t215=true then (some (a0_2.toList == ([]:List UInt8))) else (some false))) else (if a0_0=2 then ((impl_in.f a0_1 (-9999) 9999).bind fun t216=>(if t216=true then (some (a0_2.toList == ([]:List UInt8))) else (some false))) else (if a0_0=3 then ((impl_in.f a0_1 0 3).bind fun t217=>(if t217=true then ((impl_nameOk.f a0_2).bind fun t218=>(some t218)) else (some false))) else (some false))))=some r:=h
 clear h
 by_cases c2:a0_0=1
 ·rw [if_pos c2] at H
  have c2b0:(a0_0 == 1)=true:=beq_iff_eq.mpr c2
  have c2b1:(a0_0 != 1)=false:=bne_eq_false_iff_eq.mpr c2
  clear c2
  replace H:=Option.bind_eq_some_iff.mp H
  obtain ⟨t215,A30,H⟩:=H
  try dsimp only at H
  have A3:=Aside0.mk A30
  clear A30
  by_cases c4:t215=true
  ·subst c4
   have H1:(some (a0_2.toList == ([]:List UInt8)))=some r:=qz57
   clear H
   have H:=H1
   clear H1
   obtain rfl:=Option.some.inj H
   go_enter Tryz.func67,Tryz.ntmps67
   go_wp2_with (first|((with_reducible refine gate_dst (N:=1) rfl ?_);refine box_event ?hg (N:=1) ?hd (cs:=#[.int .i64 a0_0,.int .i64 a0_1,.string a0_2]) (t:=63) ?hr ?_;(case hd=>rfl);(case hg=>rfl);(case hr=>first|(go_simp;done)|(go_simp;rfl));intro gb214 hg w5 hbox hb;have n0_:=Aside0.mk (below_step qz1 hb);have n1_:=Aside0.mk (hbox);have n2_:=Aside0.mk ((by rw [hg];exact (below_size qz1):w.heap.size≤gb214));have n3_:=Aside0.mk ((by rw [hg];exact (below_size qz1):w.heap.size≤gb214));clear HB;have HB:=n0_;have BK214:=n1_;have GW214:=n2_;have GE214:=n3_;clear n0_ n1_ n2_ n3_ hb hbox hg;have hcz6_0:w5.cell? ⟨gb214,0,none⟩=some (.int .i64 a0_0):=(blk_cell BK214.out 0).trans rfl;have hcz6_1:w5.cell? ⟨gb214,1,none⟩=some (.int .i64 a0_1):=(blk_cell BK214.out 1).trans rfl;have hcz6_2:w5.cell? ⟨gb214,2,none⟩=some (.string a0_2):=(blk_cell BK214.out 2).trans rfl;have hfz6_0:=blk_frozen BK214.out 0;have hfz6_1:=blk_frozen BK214.out 1;have hfz6_2:=blk_frozen BK214.out 2)|((with_reducible refine gate_callee (f:=68) rfl ?_);refine goesL_ (some 9) rfl rfl Tryz.func68 (by kernel_rfl) rfl #[.int .i64 a0_1,.int .i64 0,.int .i64 99999] rfl qz2 ?_;(with_reducible refine (impl_in.calls a0_1 0 99999 true _ A3.out).mono ?_);rintro e w' ⟨rfl,⟨nd,rfl⟩⟩;refine ⟨_,rfl,?_⟩))
   go_ret
   exact ⟨qz4,qz56⟩
  ·replace c4:=Bool.eq_false_iff.mpr c4
   subst c4
   have H1:(some false)=some r:=qz23
   clear H
   have H:=H1
   clear H1
   obtain rfl:=Option.some.inj H
   go_enter Tryz.func67,Tryz.ntmps67
   go_wp2_with (first|((with_reducible refine gate_dst (N:=1) rfl ?_);refine box_event ?hg (N:=1) ?hd (cs:=#[.int .i64 a0_0,.int .i64 a0_1,.string a0_2]) (t:=63) ?hr ?_;(case hd=>rfl);(case hg=>rfl);(case hr=>first|(go_simp;done)|(go_simp;rfl));intro gb214 hg w7 hbox hb;have n0_:=Aside0.mk (below_step qz1 hb);have n1_:=Aside0.mk (hbox);have n2_:=Aside0.mk ((by rw [hg];exact (below_size qz1):w.heap.size≤gb214));have n3_:=Aside0.mk ((by rw [hg];exact (below_size qz1):w.heap.size≤gb214));clear HB;have HB:=n0_;have BK214:=n1_;have GW214:=n2_;have GE214:=n3_;clear n0_ n1_ n2_ n3_ hb hbox hg;have hcz8_0:w7.cell? ⟨gb214,0,none⟩=some (.int .i64 a0_0):=(blk_cell BK214.out 0).trans rfl;have hcz8_1:w7.cell? ⟨gb214,1,none⟩=some (.int .i64 a0_1):=(blk_cell BK214.out 1).trans rfl;have hcz8_2:w7.cell? ⟨gb214,2,none⟩=some (.string a0_2):=(blk_cell BK214.out 2).trans rfl;have hfz8_0:=blk_frozen BK214.out 0;have hfz8_1:=blk_frozen BK214.out 1;have hfz8_2:=blk_frozen BK214.out 2)|((with_reducible refine gate_callee (f:=68) rfl ?_);refine goesL_ (some 9) rfl rfl Tryz.func68 (by kernel_rfl) rfl #[.int .i64 a0_1,.int .i64 0,.int .i64 99999] rfl qz2 ?_;(with_reducible refine (impl_in.calls a0_1 0 99999 false _ A3.out).mono ?_);rintro e w' ⟨rfl,⟨nd,rfl⟩⟩;refine ⟨_,rfl,?_⟩))
   go_ret
   exact ⟨qz4,qz56⟩
 ·rw [if_neg c2] at H
  have c2b0:(a0_0 == 1)=false:=beq_eq_false_iff_ne.mpr c2
  have c2b1:(a0_0 != 1)=true:=bne_iff_ne.mpr c2
  by_cases c9:a0_0=2
  ·rw [if_pos c9] at H
   have c9b0:(a0_0 == 2)=true:=beq_iff_eq.mpr c9
   have c9b1:(a0_0 != 2)=false:=bne_eq_false_iff_eq.mpr c9
   clear c9
   replace H:=Option.bind_eq_some_iff.mp H
   obtain ⟨t216,A100,H⟩:=H
   try dsimp only at H
   have A10:=Aside0.mk A100
   clear A100
   by_cases c11:t216=true
   ·subst c11
    have H1:(some (a0_2.toList == ([]:List UInt8)))=some r:=qz57
    clear H
    have H:=H1
    clear H1
    obtain rfl:=Option.some.inj H
    go_enter Tryz.func67,Tryz.ntmps67
    go_wp2_with (first|((with_reducible refine gate_dst (N:=1) rfl ?_);refine box_event ?hg (N:=1) ?hd (cs:=#[.int .i64 a0_0,.int .i64 a0_1,.string a0_2]) (t:=63) ?hr ?_;(case hd=>rfl);(case hg=>rfl);(case hr=>first|(go_simp;done)|(go_simp;rfl));intro gb214 hg w12 hbox hb;have n0_:=Aside0.mk (below_step qz1 hb);have n1_:=Aside0.mk (hbox);have n2_:=Aside0.mk ((by rw [hg];exact (below_size qz1):w.heap.size≤gb214));have n3_:=Aside0.mk ((by rw [hg];exact (below_size qz1):w.heap.size≤gb214));clear HB;have HB:=n0_;have BK214:=n1_;have GW214:=n2_;have GE214:=n3_;clear n0_ n1_ n2_ n3_ hb hbox hg;have hcz13_0:w12.cell? ⟨gb214,0,none⟩=some (.int .i64 a0_0):=(blk_cell BK214.out 0).trans rfl;have hcz13_1:w12.cell? ⟨gb214,1,none⟩=some (.int .i64 a0_1):=(blk_cell BK214.out 1).trans rfl;have hcz13_2:w12.cell? ⟨gb214,2,none⟩=some (.string a0_2):=(blk_cell BK214.out 2).trans rfl;have hfz13_0:=blk_frozen BK214.out 0;have hfz13_1:=blk_frozen BK214.out 1;have hfz13_2:=blk_frozen BK214.out 2)|((with_reducible refine gate_callee (f:=68) rfl ?_);refine goesL_ (some 19) rfl rfl Tryz.func68 (by kernel_rfl) rfl #[.int .i64 a0_1,.int .i64 (-9999),.int .i64 9999] rfl qz2 ?_;(with_reducible refine (impl_in.calls a0_1 (-9999) 9999 true _ A10.out).mono ?_);rintro e w' ⟨rfl,⟨nd,rfl⟩⟩;refine ⟨_,rfl,?_⟩))
    go_ret
    exact ⟨qz4,qz56⟩
   ·replace c11:=Bool.eq_false_iff.mpr c11
    subst c11
    have H1:(some false)=some r:=qz23
    clear H
    have H:=H1
    clear H1
    obtain rfl:=Option.some.inj H
    go_enter Tryz.func67,Tryz.ntmps67
    go_wp2_with (first|((with_reducible refine gate_dst (N:=1) rfl ?_);refine box_event ?hg (N:=1) ?hd (cs:=#[.int .i64 a0_0,.int .i64 a0_1,.string a0_2]) (t:=63) ?hr ?_;(case hd=>rfl);(case hg=>rfl);(case hr=>first|(go_simp;done)|(go_simp;rfl));intro gb214 hg w14 hbox hb;have n0_:=Aside0.mk (below_step qz1 hb);have n1_:=Aside0.mk (hbox);have n2_:=Aside0.mk ((by rw [hg];exact (below_size qz1):w.heap.size≤gb214));have n3_:=Aside0.mk ((by rw [hg];exact (below_size qz1):w.heap.size≤gb214));clear HB;have HB:=n0_;have BK214:=n1_;have GW214:=n2_;have GE214:=n3_;clear n0_ n1_ n2_ n3_ hb hbox hg;have hcz15_0:w14.cell? ⟨gb214,0,none⟩=some (.int .i64 a0_0):=(blk_cell BK214.out 0).trans rfl;have hcz15_1:w14.cell? ⟨gb214,1,none⟩=some (.int .i64 a0_1):=(blk_cell BK214.out 1).trans rfl;have hcz15_2:w14.cell? ⟨gb214,2,none⟩=some (.string a0_2):=(blk_cell BK214.out 2).trans rfl;have hfz15_0:=blk_frozen BK214.out 0;have hfz15_1:=blk_frozen BK214.out 1;have hfz15_2:=blk_frozen BK214.out 2)|((with_reducible refine gate_callee (f:=68) rfl ?_);refine goesL_ (some 19) rfl rfl Tryz.func68 (by kernel_rfl) rfl #[.int .i64 a0_1,.int .i64 (-9999),.int .i64 9999] rfl qz2 ?_;(with_reducible refine (impl_in.calls a0_1 (-9999) 9999 false _ A10.out).mono ?_);rintro e w' ⟨rfl,⟨nd,rfl⟩⟩;refine ⟨_,rfl,?_⟩))
    go_ret
    exact ⟨qz4,qz56⟩
  ·rw [if_neg c9] at H
   have c9b0:(a0_0 == 2)=false:=beq_eq_false_iff_ne.mpr c9
   have c9b1:(a0_0 != 2)=true:=bne_iff_ne.mpr c9
   by_cases c16:a0_0=3
   ·rw [if_pos c16] at H
    have c16b0:(a0_0 == 3)=true:=beq_iff_eq.mpr c16
    have c16b1:(a0_0 != 3)=false:=bne_eq_false_iff_eq.mpr c16
    clear c16
    replace H:=Option.bind_eq_some_iff.mp H
    obtain ⟨t217,A170,H⟩:=H
    try dsimp only at H
    have A17:=Aside0.mk A170
    clear A170
    by_cases c18:t217=true
    ·subst c18
     have H1:((impl_nameOk.f a0_2).bind fun t218=>(some t218))=some r:=qz57
     clear H
     have H:=H1
     clear H1
     replace H:=Option.bind_eq_some_iff.mp H
     obtain ⟨t218,A190,H⟩:=H
     try dsimp only at H
     have A19:=Aside0.mk A190
     clear A190
     obtain rfl:=Option.some.inj H
     go_enter Tryz.func67,Tryz.ntmps67
     go_wp2_with (first|((with_reducible refine gate_dst (N:=1) rfl ?_);refine box_event ?hg (N:=1) ?hd (cs:=#[.int .i64 a0_0,.int .i64 a0_1,.string a0_2]) (t:=63) ?hr ?_;(case hd=>rfl);(case hg=>rfl);(case hr=>first|(go_simp;done)|(go_simp;rfl));intro gb214 hg w20 hbox hb;have n0_:=Aside0.mk (below_step qz1 hb);have n1_:=Aside0.mk (hbox);have n2_:=Aside0.mk ((by rw [hg];exact (below_size qz1):w.heap.size≤gb214));have n3_:=Aside0.mk ((by rw [hg];exact (below_size qz1):w.heap.size≤gb214));clear HB;have HB:=n0_;have BK214:=n1_;have GW214:=n2_;have GE214:=n3_;clear n0_ n1_ n2_ n3_ hb hbox hg;have hcz21_0:w20.cell? ⟨gb214,0,none⟩=some (.int .i64 a0_0):=(blk_cell BK214.out 0).trans rfl;have hcz21_1:w20.cell? ⟨gb214,1,none⟩=some (.int .i64 a0_1):=(blk_cell BK214.out 1).trans rfl;have hcz21_2:w20.cell? ⟨gb214,2,none⟩=some (.string a0_2):=(blk_cell BK214.out 2).trans rfl;have hfz21_0:=blk_frozen BK214.out 0;have hfz21_1:=blk_frozen BK214.out 1;have hfz21_2:=blk_frozen BK214.out 2)|((with_reducible refine gate_callee (f:=68) rfl ?_);refine goesL_ (some 29) rfl rfl Tryz.func68 (by kernel_rfl) rfl #[.int .i64 a0_1,.int .i64 0,.int .i64 3] rfl qz2 ?_;(with_reducible refine (impl_in.calls a0_1 0 3 true _ A17.out).mono ?_);rintro e w' ⟨rfl,⟨nd,rfl⟩⟩;refine ⟨_,rfl,?_⟩)|(go_at_call 93;(with_reducible refine (impl_nameOk.calls a0_2 t218 _ A19.out).mono ?_);rintro e w22 ⟨rfl,hb⟩;have n0_:=Aside0.mk (blk_below (g:=gb214) (o:=.cells #[.int .i64 a0_0,.int .i64 a0_1,.string a0_2] 63 (0,0)) (by (with_reducible repeat (first|refine blk_drewN ?_ _|refine blk_drew ?_|refine blk_alloc ?_ _));exact BK214.out) hb);have n1_:=Aside0.mk (below_step qz56 hb);clear BK214 HB;have BK214:=n0_;have HB:=n1_;clear n0_ n1_;(try clear hb);(try clear hb2);(try clear hk);(try clear hi)))
     go_ret
     exact ⟨qz4,qz56⟩
    ·replace c18:=Bool.eq_false_iff.mpr c18
     subst c18
     have H1:(some false)=some r:=qz23
     clear H
     have H:=H1
     clear H1
     obtain rfl:=Option.some.inj H
     go_enter Tryz.func67,Tryz.ntmps67
     go_wp2_with (first|((with_reducible refine gate_dst (N:=1) rfl ?_);refine box_event ?hg (N:=1) ?hd (cs:=#[.int .i64 a0_0,.int .i64 a0_1,.string a0_2]) (t:=63) ?hr ?_;(case hd=>rfl);(case hg=>rfl);(case hr=>first|(go_simp;done)|(go_simp;rfl));intro gb214 hg w23 hbox hb;have n0_:=Aside0.mk (below_step qz1 hb);have n1_:=Aside0.mk (hbox);have n2_:=Aside0.mk ((by rw [hg];exact (below_size qz1):w.heap.size≤gb214));have n3_:=Aside0.mk ((by rw [hg];exact (below_size qz1):w.heap.size≤gb214));clear HB;have HB:=n0_;have BK214:=n1_;have GW214:=n2_;have GE214:=n3_;clear n0_ n1_ n2_ n3_ hb hbox hg;have hcz24_0:w23.cell? ⟨gb214,0,none⟩=some (.int .i64 a0_0):=(blk_cell BK214.out 0).trans rfl;have hcz24_1:w23.cell? ⟨gb214,1,none⟩=some (.int .i64 a0_1):=(blk_cell BK214.out 1).trans rfl;have hcz24_2:w23.cell? ⟨gb214,2,none⟩=some (.string a0_2):=(blk_cell BK214.out 2).trans rfl;have hfz24_0:=blk_frozen BK214.out 0;have hfz24_1:=blk_frozen BK214.out 1;have hfz24_2:=blk_frozen BK214.out 2)|((with_reducible refine gate_callee (f:=68) rfl ?_);refine goesL_ (some 29) rfl rfl Tryz.func68 (by kernel_rfl) rfl #[.int .i64 a0_1,.int .i64 0,.int .i64 3] rfl qz2 ?_;(with_reducible refine (impl_in.calls a0_1 0 3 false _ A17.out).mono ?_);rintro e w' ⟨rfl,⟨nd,rfl⟩⟩;refine ⟨_,rfl,?_⟩))
     go_ret
     exact ⟨qz4,qz56⟩
   ·rw [if_neg c16] at H
    have c16b0:(a0_0 == 3)=false:=beq_eq_false_iff_ne.mpr c16
    have c16b1:(a0_0 != 3)=true:=bne_iff_ne.mpr c16
    obtain rfl:=Option.some.inj H
    go_enter Tryz.func67,Tryz.ntmps67
    go_wp2_with (first|((with_reducible refine gate_dst (N:=1) rfl ?_);refine box_event ?hg (N:=1) ?hd (cs:=#[.int .i64 a0_0,.int .i64 a0_1,.string a0_2]) (t:=63) ?hr ?_;(case hd=>rfl);(case hg=>rfl);(case hr=>first|(go_simp;done)|(go_simp;rfl));intro gb214 hg w25 hbox hb;have n0_:=Aside0.mk (below_step qz1 hb);have n1_:=Aside0.mk (hbox);have n2_:=Aside0.mk ((by rw [hg];exact (below_size qz1):w.heap.size≤gb214));have n3_:=Aside0.mk ((by rw [hg];exact (below_size qz1):w.heap.size≤gb214));clear HB;have HB:=n0_;have BK214:=n1_;have GW214:=n2_;have GE214:=n3_;clear n0_ n1_ n2_ n3_ hb hbox hg;have hcz26_0:w25.cell? ⟨gb214,0,none⟩=some (.int .i64 a0_0):=(blk_cell BK214.out 0).trans rfl;have hcz26_1:w25.cell? ⟨gb214,1,none⟩=some (.int .i64 a0_1):=(blk_cell BK214.out 1).trans rfl;have hcz26_2:w25.cell? ⟨gb214,2,none⟩=some (.string a0_2):=(blk_cell BK214.out 2).trans rfl;have hfz26_0:=blk_frozen BK214.out 0;have hfz26_1:=blk_frozen BK214.out 1;have hfz26_2:=blk_frozen BK214.out 2))
    go_ret
    exact ⟨qz4,qz56⟩

/-! ### impl_TrmCell_arity: function 88 -/
def impl_TrmCell_arity.f (a0_0:Int) (a0_1:Int) (a0_2:ByteArray):Option (Int):=if a0_0=3 then (some a0_1) else (some 0)
set_option maxHeartbeats 8000000 in
set_option maxRecDepth 100000 in
theorem impl_TrmCell_arity.calls (a0_0:Int) (a0_1:Int) (a0_2:ByteArray) (r:Int) (w:World) (h:impl_TrmCell_arity.f a0_0 a0_1 a0_2=some r) :
  Calls Tryz.prog 88 #[.agg #[.int .i64 a0_0,.int .i64 a0_1,.string a0_2]] w fun e w'=>e = .returned (.int .i64 r)∧Below w.heap.size w w':=by
 have hu63:=Tryz.underlying63
 have HB:=Aside0.mk (Below.refl w.heap.size w)
 have H:(if a0_0=3 then (some a0_1) else (some 0))=some r:=h
 clear h
 by_cases c2:a0_0=3
 ·rw [if_pos c2] at H
  have c2b0:(a0_0 == 3)=true:=beq_iff_eq.mpr c2
  have c2b1:(a0_0 != 3)=false:=bne_eq_false_iff_eq.mpr c2
  clear c2
  obtain rfl:=Option.some.inj H
  go_enter Tryz.func88,Tryz.ntmps88
  go_wp2_with (first|((with_reducible refine gate_dst (N:=1) rfl ?_);refine box_event ?hg (N:=1) ?hd (cs:=#[.int .i64 a0_0,.int .i64 a0_1,.string a0_2]) (t:=63) ?hr ?_;(case hd=>rfl);(case hg=>rfl);(case hr=>first|(go_simp;done)|(go_simp;rfl));intro gb219 hg w3 hbox hb;have n0_:=Aside0.mk (below_step qz1 hb);have n1_:=Aside0.mk (hbox);have n2_:=Aside0.mk ((by rw [hg];exact (below_size qz1):w.heap.size≤gb219));have n3_:=Aside0.mk ((by rw [hg];exact (below_size qz1):w.heap.size≤gb219));clear HB;have HB:=n0_;have BK219:=n1_;have GW219:=n2_;have GE219:=n3_;clear n0_ n1_ n2_ n3_ hb hbox hg;have hcz4_0:w3.cell? ⟨gb219,0,none⟩=some (.int .i64 a0_0):=(blk_cell BK219.out 0).trans rfl;have hcz4_1:w3.cell? ⟨gb219,1,none⟩=some (.int .i64 a0_1):=(blk_cell BK219.out 1).trans rfl;have hcz4_2:w3.cell? ⟨gb219,2,none⟩=some (.string a0_2):=(blk_cell BK219.out 2).trans rfl;have hfz4_0:=blk_frozen BK219.out 0;have hfz4_1:=blk_frozen BK219.out 1;have hfz4_2:=blk_frozen BK219.out 2))
  go_ret
  exact ⟨qz4,qz178⟩
 ·rw [if_neg c2] at H
  have c2b0:(a0_0 == 3)=false:=beq_eq_false_iff_ne.mpr c2
  have c2b1:(a0_0 != 3)=true:=bne_iff_ne.mpr c2
  obtain rfl:=Option.some.inj H
  go_enter Tryz.func88,Tryz.ntmps88
  go_wp2_with (first|((with_reducible refine gate_dst (N:=1) rfl ?_);refine box_event ?hg (N:=1) ?hd (cs:=#[.int .i64 a0_0,.int .i64 a0_1,.string a0_2]) (t:=63) ?hr ?_;(case hd=>rfl);(case hg=>rfl);(case hr=>first|(go_simp;done)|(go_simp;rfl));intro gb219 hg w5 hbox hb;have n0_:=Aside0.mk (below_step qz1 hb);have n1_:=Aside0.mk (hbox);have n2_:=Aside0.mk ((by rw [hg];exact (below_size qz1):w.heap.size≤gb219));have n3_:=Aside0.mk ((by rw [hg];exact (below_size qz1):w.heap.size≤gb219));clear HB;have HB:=n0_;have BK219:=n1_;have GW219:=n2_;have GE219:=n3_;clear n0_ n1_ n2_ n3_ hb hbox hg;have hcz6_0:w5.cell? ⟨gb219,0,none⟩=some (.int .i64 a0_0):=(blk_cell BK219.out 0).trans rfl;have hcz6_1:w5.cell? ⟨gb219,1,none⟩=some (.int .i64 a0_1):=(blk_cell BK219.out 1).trans rfl;have hcz6_2:w5.cell? ⟨gb219,2,none⟩=some (.string a0_2):=(blk_cell BK219.out 2).trans rfl;have hfz6_0:=blk_frozen BK219.out 0;have hfz6_1:=blk_frozen BK219.out 1;have hfz6_2:=blk_frozen BK219.out 2))
  go_ret
  exact ⟨qz4,qz178⟩

/-! ### impl_size: function 70 -/
def impl_size.l0:Nat→List (S63)→Int→Int→Option (Int)
 | 0,_,_,_=>none
 | k+1,x0,x3,x4=>if x4<x3 then (if x4=(x0.length:Int) then (some (wrap64 ((x0.length:Int)+1))) else (if 0≤x4 then (if x4<(x0.length:Int) then ((impl_TrmCell_arity.f ((rd_T63 x0 x4).f0) ((rd_T63 x0 x4).f1) ((rd_T63 x0 x4).f2)).bind fun t221=>(impl_size.l0 k x0 (wrap64 (x3+t221)) (wrap64 (x4+1)))) else (none)) else (none))) else (some x3)
def impl_size.f (k:Nat) (l0:List (S63)):Option (Int):=impl_size.l0 k l0 1 0
set_option maxHeartbeats 8000000 in
set_option maxRecDepth 100000 in
theorem impl_size.calls (k:Nat) (A0:Option Addr) (c0:Nat) (l0:List (S63)) (r:Int) (w:World) (hr0:Kd.C k63 w A0 l0.length l0) (hc0:l0.length≤c0) (h:impl_size.f k l0=some r) :
  Calls Tryz.prog 70 #[.slice A0 l0.length c0] w fun e w'=>e = .returned (.int .i64 r)∧Below w.heap.size w w':=by
 have hu63:=Tryz.underlying63
 have HR0:=Aside0.mk hr0
 have HC0:=Aside0.mk hc0
 clear hr0 hc0
 have HB:=Aside0.mk (Below.refl w.heap.size w)
 have H:(impl_size.l0 k l0 1 0)=some r:=h
 clear h
 have H':=Aside0.mk H
 clear H
 go_enter Tryz.func70,Tryz.ntmps70
 go_wp2
 go_loopg [3,4] k (fun kq v3 v4 w'=>∃ (x3_1:Int) (x4_1:Int),v3 = .int .i64 x3_1∧v4 = .int .i64 x4_1∧Aside0 (impl_size.l0 kq l0 x3_1 x4_1=some r)∧Aside0 (kq≤k)∧Aside0 (Below w.heap.size w w'))
 case atStart=>exact ⟨(1),(0),qz9,qz9,H',⟨Nat.le_refl _⟩,⟨qz3⟩⟩
 case round=>
  clear H'
  obtain ⟨x3_1,x4_1,rfl,rfl,HA,HK1,HB⟩:=hrel
  cases gk with
  | zero=>exact absurd HA.out (by simp [impl_size.l0])
  | succ k1=>
   have H:=HA.out
   clear HA
   simp only [impl_size.l0] at H
   by_cases c2:x4_1<x3_1
   ·rw [if_pos c2] at H
    have c2b0:decide (x4_1<x3_1)=true:=decide_eq_true c2
    clear c2
    by_cases c3:x4_1=(l0.length:Int)
    ·rw [if_pos c3] at H
     have c3b0:(x4_1 == (l0.length:Int))=true:=beq_iff_eq.mpr c3
     have c3b1:(x4_1 != (l0.length:Int))=false:=bne_eq_false_iff_eq.mpr c3
     clear c3
     obtain rfl:=Option.some.inj H
     go_wp2
     go_ret
     exact ⟨qz4,qz3⟩
    ·rw [if_neg c3] at H
     have c3b0:(x4_1 == (l0.length:Int))=false:=beq_eq_false_iff_ne.mpr c3
     have c3b1:(x4_1 != (l0.length:Int))=true:=bne_iff_ne.mpr c3
     by_cases c4:0≤x4_1
     ·rw [if_pos c4] at H
      have c4b0:decide (0≤x4_1)=true:=decide_eq_true c4
      clear c4
      by_cases c5:x4_1<(l0.length:Int)
      ·rw [if_pos c5] at H
       have c5b0:decide (x4_1<(l0.length:Int))=true:=decide_eq_true c5
       clear c5
       replace H:=Option.bind_eq_some_iff.mp H
       obtain ⟨t221,A60,H⟩:=H
       try dsimp only at H
       have A6:=Aside0.mk A60
       clear A60
       have H':=Aside0.mk H
       clear H
       have p220:0≤(x4_1:Int):=of_decide_eq_true qz5
       have q220:x4_1<(l0.length:Int):=of_decide_eq_true qz5
       obtain ⟨ad220,e220,hx220_0,hx220_1,hx220_2⟩:=at_T63 HR0.out x4_1 p220 q220
       cases e220
       replace hx220_0:=(HB.out.cell (World.block_lt_of_cell? w _ hx220_0)).trans hx220_0
       replace hx220_1:=(HB.out.cell (World.block_lt_of_cell? w _ hx220_1)).trans hx220_1
       replace hx220_2:=(HB.out.cell (World.block_lt_of_cell? w _ hx220_2)).trans hx220_2
       replace p220:=eq_true p220
       replace q220:=eq_true q220
       go_wp2_with (first|((with_reducible refine gate_callee (f:=88) rfl ?_);refine goesL_ (some 22) rfl rfl Tryz.func88 (by kernel_rfl) rfl #[.agg #[.int .i64 ((rd_T63 l0 x4_1).f0),.int .i64 ((rd_T63 l0 x4_1).f1),.string ((rd_T63 l0 x4_1).f2)]] rfl qz2 ?_;(with_reducible refine (impl_TrmCell_arity.calls ((rd_T63 l0 x4_1).f0) ((rd_T63 l0 x4_1).f1) ((rd_T63 l0 x4_1).f2) t221 _ A6.out).mono ?_);rintro e w7 ⟨rfl,hb⟩;refine ⟨_,rfl,?_⟩;have n0_:=Aside0.mk (below_step qz1 hb);clear HB;have HB:=n0_;clear n0_;(try clear hb);(try clear hb2);(try clear hk);(try clear hi)))
       go_roundg k1
       case measure=>have:=HK1.out;omega
       case rel=>exact ⟨(wrap64 (x3_1+t221)),(wrap64 (x4_1+1)),qz9,qz9,H',⟨by have:=HK1.out;omega⟩,⟨qz3⟩⟩
      ·rw [if_neg c5] at H
       exact absurd H (by simp)
     ·rw [if_neg c4] at H
      exact absurd H (by simp)
   ·rw [if_neg c2] at H
    have c2b0:decide (x4_1<x3_1)=false:=decide_eq_false c2
    clear c2
    obtain rfl:=Option.some.inj H
    go_wp2
    go_ret
    exact ⟨qz4,qz3⟩

/-! ### impl_TrmOk: function 42 -/
/-- which place is the first of which p holds; -1, if none is -/
def firstAt (p:Cat.Cell→Bool):List Cat.Cell→Nat→Int
 | [],_=>-1
 | c :: l,i=>if p c then (i:Int) else firstAt p l (i+1)
theorem firstAt_any (p:Cat.Cell→Bool):∀ (l:List Cat.Cell) (i:Nat),decide (firstAt p l i≥0)=l.any p
 | [],i=>by simp [firstAt]
 | c :: l,i=>by
  unfold firstAt
  by_cases h:p c=true
  ·simp [h]
  ·have h':p c=false:=by simpa using h
   simp only [h',List.any_cons,Bool.false_or]
   exact firstAt_any p l (i+1)
theorem firstAt_drop (p:Cat.Cell→Bool) (l:List Cat.Cell) (i:Nat) (h:i<l.length):firstAt p (l.drop i) i=if p (rd_T63 l (i:Int)) then (i:Int) else firstAt p (l.drop (i+1)) (i+1):=by
 rw [List.drop_eq_getElem_cons h]
 have:rd_T63 l (i:Int)=l[i]:=by simp [rd_T63,List.getD,h]
 rw [this]
 rfl
/-- what is asked of a predicate on places: it answers p, and what lay before it lies as it lay -/
def PredC (g:Nat) (lb:Array Value) (p:Cat.Cell→Bool) (w:World):Prop:=
 ∀ (W:World) (x:Cat.Cell),Below w.heap.size w W→Calls Tryz.prog g (#[.agg #[.int .i64 x.f0,.int .i64 x.f1,.string x.f2]]++lb) W fun e w'=>e = .returned (.bool (p x))∧Below W.heap.size W w'
set_option maxHeartbeats 4000000 in
set_option maxRecDepth 100000 in
theorem indexFunc_cells (g:Nat) (lb:Array Value) (p:Cat.Cell→Bool) (eg:∀ args w,(callFunc g args).run Tryz.prog w = .ok (.enter g args) w) (A0:Option Addr) (c0:Nat) (l0:List (S63)) (w:World)
  (hr0:Kd.C k63 w A0 l0.length l0) (hc0:l0.length≤c0) (hp:PredC g lb p w) :
  Calls Tryz.prog 94 #[.slice A0 l0.length c0,.func (.func g) #[] lb] w fun e w'=>e = .returned (.int .i64 (firstAt p l0 0))∧Below w.heap.size w w':=by
 have HR:=Aside0.mk hr0
 have HP:=Aside0.mk hp
 have hm:l0.length≤9223372036854775807:=hr0.2.1
 clear hr0 hp
 go_enter Tryz.func94,Tryz.ntmps94
 go_wp2
 go_loopg [5,8] l0.length (fun gg _ s8 wr=>∃ kk:Nat,kk≤l0.length∧l0.length - kk≤gg∧s8 = .int .i64 kk∧Aside0 (Below w.heap.size w wr)∧Aside0 (firstAt p l0 0=firstAt p (l0.drop kk) kk))
 case atStart=>exact ⟨0,Nat.zero_le _,by omega,rfl,⟨Below.refl _ w⟩,⟨rfl⟩⟩
 case round=>
  obtain ⟨kk,hkk,hg,rfl,BW,A⟩:=hrel
  by_cases hlt:kk<l0.length
  ·have hltz:(kk:Int)<(l0.length:Int):=by omega
   have hfd:=Aside0.mk (firstAt_drop p l0 kk hlt)
   obtain ⟨ad,e1,hx0,hx1,hx2⟩:=at_T63 HR.out (kk:Int) (by omega) hltz
   cases e1
   rw [Int.toNat_natCast] at hx0 hx1 hx2
   replace hx0:=(BW.out.cell (World.block_lt_of_cell? w _ hx0)).trans hx0
   replace hx1:=(BW.out.cell (World.block_lt_of_cell? w _ hx1)).trans hx1
   replace hx2:=(BW.out.cell (World.block_lt_of_cell? w _ hx2)).trans hx2
   have hcall:=HP.out wr (rd_T63 l0 (kk:Int)) BW.out
   generalize hy:rd_T63 l0 (kk:Int)=y at hx0 hx1 hx2 hcall
   have B:=Aside0.mk hy
   clear hy
   cases hq:p y with
   | true=>
    rw [hq] at hcall
    have Q:=Aside0.mk hq
    clear hq
    go_wp2_with (go_at_fn g;refine hcall.mono ?_;rintro e w' ⟨rfl,hb'⟩)
    go_ret
    refine ⟨?_,below_step BW.out hb'⟩
    rw [A.out,hfd.out,B.out,if_pos Q.out]
    rfl
   | false=>
    rw [hq] at hcall
    have Q:=Aside0.mk hq
    clear hq
    go_wp2_with (go_at_fn g;refine hcall.mono ?_;rintro e w' ⟨rfl,hb'⟩)
    go_roundg (l0.length - (kk+1))
    case measure=>omega
    case rel=>
     refine ⟨kk+1,by omega,by omega,by go_num,⟨below_step BW.out hb'⟩,⟨?_⟩⟩
     rw [A.out,hfd.out,B.out,if_neg (by rw [Q.out];simp)]
  ·have hltz:¬ (kk:Int)<(l0.length:Int):=by omega
   have e:kk=l0.length:=by omega
   have hE:=Aside0.mk e
   clear e
   go_wp2
   go_ret
   refine ⟨?_,BW.out⟩
   rw [A.out,hE.out,List.drop_length]
   rfl
theorem in_pure (a b c:Int):impl_in.f a b c=some (decide (b≤a∧a≤c)):=by
 unfold impl_in.f
 by_cases h:a≥b
 ·rw [if_pos h]
  have:b≤a:=h
  simp [this]
 ·rw [if_neg h]
  have:¬ b≤a:=h
  simp [this]
theorem dropWhile_nil {α:Type} (p:α→Bool):∀ l:List α,l.dropWhile p=[]↔∀ x ∈ l,p x=true
 | []=>by simp
 | a :: l=>by
  rw [List.dropWhile_cons]
  by_cases h:p a=true
  ·rw [if_pos h,dropWhile_nil p l];simp [h]
  ·rw [if_neg h];simp [h]
theorem dropWhile_head {α:Type} (p:α→Bool):∀ (l:List α) (h:l.dropWhile p≠[]),p ((l.dropWhile p).head h)=false
 | [],h=>absurd rfl h
 | a :: l,h=>by
  by_cases ha:p a=true
  ·have e:(a :: l).dropWhile p=l.dropWhile p:=by rw [List.dropWhile_cons,if_pos ha]
   have:=dropWhile_head p l (by rw [← e];exact h)
   simpa only [e] using this
  ·have e:(a :: l).dropWhile p=a :: l:=by rw [List.dropWhile_cons,if_neg ha]
   simp only [e,List.head_cons]
   simpa using ha
set_option maxRecDepth 100000 in
theorem trim_az (l:List UInt8):(Lib.trimS l [97,98,99,100,101,102,103,104,105,106,107,108,109,110,111,112,113,114,115,116,117,118,119,120,121,122]=[])↔l.all (fun b=>decide (97≤b.toNat∧b.toNat≤122))=true:=by
 have hc:∀ b:UInt8,([97,98,99,100,101,102,103,104,105,106,107,108,109,110,111,112,113,114,115,116,117,118,119,120,121,122]:List UInt8).contains b=decide (97≤b.toNat∧b.toNat≤122):=by
  intro b
  have:∀ n:Fin 256,([97,98,99,100,101,102,103,104,105,106,107,108,109,110,111,112,113,114,115,116,117,118,119,120,121,122]:List UInt8).contains (UInt8.ofNat n.val)=decide (97≤(UInt8.ofNat n.val).toNat∧(UInt8.ofNat n.val).toNat≤122):=by decide
  have h2:=this ⟨b.toNat,b.toNat_lt⟩
  simpa using h2
 unfold Lib.trimS Lib.trimLeftS Lib.trimRightS
 simp only [hc]
 rw [dropWhile_nil]
 rw [List.all_eq_true]
 constructor
 ·intro h x hx
  by_cases hd:(l.reverse.dropWhile fun b=>decide (97≤b.toNat∧b.toNat≤122))=[]
  ·rw [dropWhile_nil] at hd
   exact hd x (by simpa using hx)
  ·exfalso
   have h1:=dropWhile_head (fun b:UInt8=>decide (97≤b.toNat∧b.toNat≤122)) l.reverse hd
   have h2:=h ((l.reverse.dropWhile fun b=>decide (97≤b.toNat∧b.toNat≤122)).head hd) (by simp)
   rw [h1] at h2
   cases h2
 ·intro h x hx
  have:x ∈ l.reverse.dropWhile (fun b:UInt8=>decide (97≤b.toNat∧b.toNat≤122)):=by simpa using hx
  exact h x (by simpa using (List.dropWhile_sublist _).mem this)
theorem nameOk_pure (s:ByteArray):impl_nameOk.f s=some (Cat.nameOk s):=by
 have hs:s.data.toList.length=s.size:=by rw [Array.length_toList];rfl
 unfold impl_nameOk.f
 rw [in_pure]
 simp only [Option.bind_some]
 unfold Cat.nameOk Cat.nameOkL
 rw [hs]
 by_cases h:(1:Int)≤(s.size:Int)∧(s.size:Int)≤8
 ·have h':1≤s.size∧s.size≤8:=by omega
  rw [if_pos (by simpa using h)]
  unfold strings_Trim.f
  rw [if_pos (by omega),if_pos (by decide),if_pos (by decide)]
  simp only [Option.bind_some,ByteArray.toList_eq]
  have ha:=trim_az s.data.toList
  by_cases hz:s.data.toList.all (fun b=>decide (97≤b.toNat∧b.toNat≤122))=true
  ·rw [if_pos (ha.2 hz),hz]
   simp [h',bne]
  ·rw [if_neg (fun e=>hz (ha.1 e)),Bool.not_eq_true _ |>.mp hz]
   simp
 ·have h':¬ (1≤s.size∧s.size≤8):=by omega
  rw [if_neg (by simpa using h)]
  simp [h']
theorem cellOk_pure (c:Cat.Cell):impl_TrmCell_ok.f c.f0 c.f1 c.f2=some (Cat.cellOk c):=by
 unfold impl_TrmCell_ok.f Cat.cellOk
 simp only [in_pure,nameOk_pure,Option.bind_some,ByteArray.toList_eq]
 have e:∀ l:List UInt8,(l == [])=l.isEmpty:=by intro l;cases l <;> rfl
 by_cases h1:c.f0=1
 ·rw [if_pos h1,if_pos h1]
  by_cases h:(0:Int)≤c.f1∧c.f1≤99999
  ·rw [if_pos (by simpa using h),e];simp [h]
  ·rw [if_neg (by simpa using h)];simp only [decide_eq_false h,Bool.false_and]
 rw [if_neg h1,if_neg h1]
 by_cases h2:c.f0=2
 ·rw [if_pos h2,if_pos h2]
  by_cases h:(-9999:Int)≤c.f1∧c.f1≤9999
  ·rw [if_pos (by simpa using h),e];simp [h]
  ·rw [if_neg (by simpa using h)];simp only [decide_eq_false h,Bool.false_and]
 rw [if_neg h2,if_neg h2]
 by_cases h3:c.f0=3
 ·rw [if_pos h3,if_pos h3]
  by_cases h:(0:Int)≤c.f1∧c.f1≤3
  ·rw [if_pos (by simpa using h)];simp only [decide_eq_true h,Bool.true_and]
  ·rw [if_neg (by simpa using h)];simp only [decide_eq_false h,Bool.false_and]
 rw [if_neg h3,if_neg h3]
theorem cellOk_ar {c:Cat.Cell} (h:Cat.cellOk c=true):(if c.f0=3 then some c.f1 else some 0:Option Int)=some ((Cat.ar c:Nat):Int)∧Cat.ar c≤3:=by
 unfold Cat.ar
 by_cases h3:c.f0=3
 ·unfold Cat.cellOk at h
  rw [if_neg (by omega),if_neg (by omega),if_pos h3] at h
  have h:=(Bool.and_eq_true_iff.1 h).1
  have h:=of_decide_eq_true h
  rw [if_pos h3,if_pos h3]
  refine ⟨congrArg some ?_,?_⟩ <;> omega
 ·rw [if_neg h3,if_neg h3]
  exact ⟨rfl,by omega⟩
theorem size_l0:∀ (r a:List Cat.Cell) (m:Nat),(a++r).length≤1099511627776→Cat.okl (a++r)→m≤1+3 * a.length→
  Ev (fun k=>impl_size.l0 k (a++r) ((a.length+m:Nat):Int) ((a.length:Nat):Int)) (match Cat.skip m r with
   | some s=>(((a++r).length - s.length:Nat):Int)
   | none=>(((a++r).length+1:Nat):Int)):=by
 intro r
 induction r with
 | nil=>
  intro a m hl ho hm
  refine Ev.step (fun k=>rfl) ?_
  simp only [impl_size.l0]
  cases m with
  | zero=>
   rw [Cat.skip_zero]
   refine Ev.ifn (by omega) ?_
   exact Ev.pure (by simp)
  | succ n=>
   rw [Cat.skip_nil]
   refine Ev.ifp (by omega) (Ev.ifp (by simp) ?_)
   refine Ev.pure ?_
   have:(a++[]).length≤1099511627776:=hl
   rw [IntWalk.wrap64_in _ ⟨by omega,by omega⟩]
   rfl
 | cons c r ih=>
  intro a m hl ho hm
  refine Ev.step (fun k=>rfl) ?_
  simp only [impl_size.l0]
  cases m with
  | zero=>
   rw [Cat.skip_zero]
   refine Ev.ifn (by omega) ?_
   exact Ev.pure (by simp)
  | succ n=>
   have hc:Cat.cellOk c=true:=ho c (by simp)
   obtain ⟨h1,h2⟩:=cellOk_ar hc
   have hll:a.length+(r.length+1)≤1099511627776:=by simpa using hl
   have e1:((a.length:Nat):Int)<((a++c :: r).length:Int):=by simp;omega
   have er:rd_T63 (a++c :: r) ((a.length:Nat):Int)=c:=by simp [rd_T63,List.getD]
   refine Ev.ifp (by omega) (Ev.ifn (by omega) (Ev.ifp (by omega) (Ev.ifp e1 ?_)))
   rw [er]
   refine Ev.bindv (a:=((Cat.ar c:Nat):Int)) h1 ?_
   have e:(a++[c])++r=a++c :: r:=by simp
   have I:=ih (a++[c]) (n+Cat.ar c) (by rw [e];exact hl) (by rw [e];exact ho) (by simp;omega)
   rw [e] at I
   rw [Cat.skip_cons]
   have e2:wrap64 (((a.length+(n+1):Nat):Int)+((Cat.ar c:Nat):Int))=(((a++[c]).length+(n+Cat.ar c):Nat):Int):=by
    rw [IntWalk.wrap64_in _ ⟨by omega,by omega⟩];simp;omega
   have e3:wrap64 (((a.length:Nat):Int)+1)=(((a++[c]).length:Nat):Int):=by
    rw [IntWalk.wrap64_in _ ⟨by omega,by omega⟩];simp
   rw [e2,e3]
   exact I
theorem size_ev (l:List Cat.Cell) (hl:l.length≤1099511627776) (ho:Cat.okl l):Ev (fun k=>impl_size.f k l) ((Cat.sizeOf l:Nat):Int):=by
 have h:=size_l0 l [] 1 (by simpa using hl) (by simpa using ho) (by simp)
 unfold impl_size.f
 unfold Cat.sizeOf
 simp only [List.nil_append,List.length_nil,Nat.zero_add] at h
 cases hs:Cat.skip 1 l with
 | none=>rw [hs] at h;exact h
 | some s=>rw [hs] at h;exact h
theorem skip_len:∀ (l:List Cat.Cell) (n:Nat) (r:List Cat.Cell),Cat.skip n l=some r→r.length≤l.length:=by
 intro l n r h
 obtain ⟨p,e,_⟩:=Cat.skip_split l n r h
 rw [e];simp
theorem sizeOf_eq (l:List Cat.Cell):(Cat.sizeOf l=l.length)↔Cat.skip 1 l=some []:=by
 unfold Cat.sizeOf
 cases h:Cat.skip 1 l with
 | none=>simp
 | some s=>
  have:=skip_len l 1 s h
  simp only [Option.some.injEq]
  constructor
  ·intro e
   cases s with
   | nil=>rfl
   | cons c s=>
    cases l with
    | nil=>simp at this
    | cons d l=>simp at e this;omega
  ·rintro rfl;simp
set_option maxHeartbeats 4000000 in
set_option maxRecDepth 100000 in
theorem containsFunc_cells (g:Nat) (lb:Array Value) (p:Cat.Cell→Bool) (eg:∀ args w,(callFunc g args).run Tryz.prog w = .ok (.enter g args) w) (A0:Option Addr) (c0:Nat) (l0:List (S63)) (w:World)
  (hr0:Kd.C k63 w A0 l0.length l0) (hc0:l0.length≤c0) (hp:PredC g lb p w) :
  Calls Tryz.prog 69 #[.slice A0 l0.length c0,.func (.func g) #[] lb] w fun e w'=>e = .returned (.bool (l0.any p))∧Below w.heap.size w w':=by
 have H:=Aside0.mk (indexFunc_cells g lb p eg A0 c0 l0 w hr0 hc0 hp)
 have HA:=Aside0.mk (firstAt_any p l0 0)
 clear hr0 hp
 go_enter Tryz.func69,Tryz.ntmps69
 go_wp2_with (go_at_call 94;refine H.out.mono ?_;rintro e w' ⟨rfl,hb⟩)
 go_ret
 exact ⟨by rw [← HA.out];rfl,hb⟩
set_option maxHeartbeats 4000000 in
set_option maxRecDepth 100000 in
theorem trmOk_wrong (x:Cat.Cell) (w:World):Calls Tryz.prog 66 #[.agg #[.int .i64 x.f0,.int .i64 x.f1,.string x.f2]] w fun e w'=>e = .returned (.bool (!Cat.cellOk x))∧Below w.heap.size w w':=by
 have A:=Aside0.mk (cellOk_pure x)
 go_enter Tryz.func66,Tryz.ntmps66
 go_wp2_with (go_at_call 67;(with_reducible refine (impl_TrmCell_ok.calls x.f0 x.f1 x.f2 (Cat.cellOk x) _ A.out).mono ?_);rintro e w' ⟨rfl,hb⟩)
 go_ret
 exact ⟨rfl,below_step (below_alloc (Below.refl _ _) _) hb⟩
def impl_TrmOk.f (l0:List (S63)):Option (Bool):=some (Cat.isTerm l0)
set_option maxHeartbeats 4000000 in
set_option maxRecDepth 100000 in
theorem impl_TrmOk.calls (A0:Option Addr) (c0:Nat) (l0:List (S63)) (r:Bool) (w:World) (hr0:Kd.C k63 w A0 l0.length l0) (hc0:l0.length≤c0) (h:impl_TrmOk.f l0=some r) :
  Calls Tryz.prog 42 #[.slice A0 l0.length c0] w fun e w'=>e = .returned (.bool r)∧Below w.heap.size w w':=by
 obtain rfl:=Option.some.inj h
 clear h
 have eg:∀ args w,(callFunc 66 args).run Tryz.prog w = .ok (.enter 66 args) w:=by intro args w;first|rfl|kernel_rfl
 have HF:=Aside0.mk (containsFunc_cells 66 #[] (fun c=>!Cat.cellOk c) eg A0 c0 l0)
 have HC:=Aside0.mk hr0
 have HL:=Aside0.mk hc0
 have P1:=Aside0.mk (fun w=>fun (W:World) (x:Cat.Cell) (_:Below w.heap.size w W)=>trmOk_wrong x W:∀ w:World,PredC 66 #[] (fun c=>!Cat.cellOk c) w)
 clear hr0 hc0 eg
 by_cases h1:1≤l0.length∧l0.length≤40
 case neg=>
  have A:=Aside0.mk (show impl_in.f (l0.length:Int) 1 40=some false by rw [in_pure];exact congrArg some (decide_eq_false (by omega)))
  have R:=Aside0.mk (show Cat.isTerm l0=false by unfold Cat.isTerm;rw [decide_eq_false h1];rfl)
  clear h1
  go_enter Tryz.func42,Tryz.ntmps42
  go_wp2_with (go_at_call 68;(with_reducible refine (impl_in.calls (l0.length:Int) 1 40 false _ A.out).mono ?_);rintro e w' ⟨rfl,⟨nd,rfl⟩⟩)
  go_ret
  exact ⟨by rw [R.out];rfl,pw_below_drewN (Below.refl _ _) _⟩
 have A:=Aside0.mk (show impl_in.f (l0.length:Int) 1 40=some true by rw [in_pure];exact congrArg some (decide_eq_true (by omega)))
 by_cases h2:l0.all Cat.cellOk=true
 case neg=>
  have Q:=Aside0.mk (show (l0.any (fun c=>!Cat.cellOk c))=true by simpa [List.any_eq_true,List.all_eq_true] using h2)
  have R:=Aside0.mk (show Cat.isTerm l0=false by unfold Cat.isTerm;rw [Bool.eq_false_iff.2 h2,Bool.false_and,Bool.and_false])
  clear h1 h2
  go_enter Tryz.func42,Tryz.ntmps42
  go_wp2_with (first|(go_at_call 68;(with_reducible refine (impl_in.calls (l0.length:Int) 1 40 true _ A.out).mono ?_);rintro e w' ⟨rfl,⟨nd,rfl⟩⟩)|(go_at_call 69;(refine (HF.out _ (Kd.C_drewN HC.out _) HL.out (P1.out _)).mono ?_);rintro e w' ⟨rfl,hb⟩;rw [Q.out]))
  go_ret
  exact ⟨by rw [R.out];rfl,below_step (pw_below_drewN (Below.refl _ _) _) hb⟩
 have Q:=Aside0.mk (show (l0.any (fun c=>!Cat.cellOk c))=false by simpa [List.any_eq_false,List.all_eq_true] using h2)
 obtain ⟨k,hk⟩:=(size_ev l0 (by omega) (fun c hc=>List.all_eq_true.1 h2 c hc)).rounds
 have S:=Aside0.mk hk
 clear hk
 by_cases h3:Cat.sizeOf l0=l0.length
 case neg=>
  have R:=Aside0.mk (show Cat.isTerm l0=false by
   unfold Cat.isTerm
   rw [decide_eq_false (fun e=>h3 ((sizeOf_eq l0).2 e)),Bool.and_false,Bool.and_false])
  have e0:(((Cat.sizeOf l0:Nat):Int) == (l0.length:Int))=false:=beq_eq_false_iff_ne.2 (by omega)
  clear h1 h2 h3
  go_enter Tryz.func42,Tryz.ntmps42
  go_wp2_with (first|(go_at_call 68;(with_reducible refine (impl_in.calls (l0.length:Int) 1 40 true _ A.out).mono ?_);rintro e w' ⟨rfl,⟨nd,rfl⟩⟩)|(go_at_call 69;(refine (HF.out _ (Kd.C_drewN HC.out _) HL.out (P1.out _)).mono ?_);rintro e w' ⟨rfl,hb⟩;rw [Q.out];have HB:=Aside0.mk (below_step (pw_below_drewN (Below.refl w.heap.size w) _) hb);clear hb)|(go_at_call 70;(refine (impl_size.calls k A0 c0 l0 _ _ (Kd.C_below HC.out HB.out) HL.out S.out).mono ?_);rintro e w'' ⟨rfl,hb⟩))
  go_ret
  exact ⟨by rw [R.out];rfl,below_step HB.out hb⟩
 have R:=Aside0.mk (show Cat.isTerm l0=true by
  unfold Cat.isTerm
  rw [decide_eq_true ((sizeOf_eq l0).1 h3),decide_eq_true h1,h2];rfl)
 have e0:(((Cat.sizeOf l0:Nat):Int) == (l0.length:Int))=true:=beq_iff_eq.2 (by omega)
 clear h1 h2 h3
 go_enter Tryz.func42,Tryz.ntmps42
 go_wp2_with (first|(go_at_call 68;(with_reducible refine (impl_in.calls (l0.length:Int) 1 40 true _ A.out).mono ?_);rintro e w' ⟨rfl,⟨nd,rfl⟩⟩)|(go_at_call 69;(refine (HF.out _ (Kd.C_drewN HC.out _) HL.out (P1.out _)).mono ?_);rintro e w' ⟨rfl,hb⟩;rw [Q.out];have HB:=Aside0.mk (below_step (pw_below_drewN (Below.refl w.heap.size w) _) hb);clear hb)|(go_at_call 70;(refine (impl_size.calls k A0 c0 l0 _ _ (Kd.C_below HC.out HB.out) HL.out S.out).mono ?_);rintro e w'' ⟨rfl,hb⟩))
 go_ret
 exact ⟨by rw [R.out];rfl,below_step HB.out hb⟩

/-! ### impl_below: function 65 -/
set_option maxHeartbeats 4000000 in
set_option maxRecDepth 100000 in
theorem below_pred (x:Cat.Cell) (v:Int) (gb:Nat) (w:World) (hv:w.cell? ⟨gb,0,none⟩=some (.int .i64 v)):Calls Tryz.prog 92 #[.agg #[.int .i64 x.f0,.int .i64 x.f1,.string x.f2],.pointer (some ⟨gb,0,none⟩)] w fun e w'=>e = .returned (.bool (decide (x.f0=1) && decide (v≤x.f1)))∧Below w.heap.size w w':=by
 have HV:=Aside0.mk hv
 clear hv
 have HB:=Aside0.mk (Below.refl w.heap.size w)
 by_cases c2:x.f0=1
 ·have c2b0:(x.f0 == 1)=true:=beq_iff_eq.mpr c2
  have R:=Aside0.mk (show decide (x.f0=1)=true from decide_eq_true c2)
  clear c2
  go_enter Tryz.func92,Tryz.ntmps92
  go_wp2_with (first|((with_reducible refine gate_dst (N:=2) rfl ?_);refine box_event ?hg (N:=2) ?hd (cs:=#[.int .i64 x.f0,.int .i64 x.f1,.string x.f2]) (t:=63) ?hr ?_;(case hd=>rfl);(case hg=>rfl);(case hr=>first|(go_simp;done)|(go_simp;rfl));intro gq hg w3 hbox hb;have n0_:=Aside0.mk (below_step qz1 hb);have n1_:=Aside0.mk (hbox);clear HB;have HB:=n0_;have BK:=n1_;clear n0_ n1_ hb hbox hg;have hcz4_0:w3.cell? ⟨gq,0,none⟩=some (.int .i64 x.f0):=(blk_cell BK.out 0).trans rfl;have hcz4_1:w3.cell? ⟨gq,1,none⟩=some (.int .i64 x.f1):=(blk_cell BK.out 1).trans rfl;have hcz4_2:w3.cell? ⟨gq,2,none⟩=some (.string x.f2):=(blk_cell BK.out 2).trans rfl;have hv:=(HB.out.cell (World.block_lt_of_cell? w _ HV.out)).trans HV.out))
  go_ret
  exact ⟨by rw [R.out];rfl,HB.out⟩
 ·have c2b0:(x.f0 == 1)=false:=beq_eq_false_iff_ne.mpr c2
  have R:=Aside0.mk (show decide (x.f0=1)=false from decide_eq_false c2)
  clear c2
  go_enter Tryz.func92,Tryz.ntmps92
  go_wp2_with (first|((with_reducible refine gate_dst (N:=2) rfl ?_);refine box_event ?hg (N:=2) ?hd (cs:=#[.int .i64 x.f0,.int .i64 x.f1,.string x.f2]) (t:=63) ?hr ?_;(case hd=>rfl);(case hg=>rfl);(case hr=>first|(go_simp;done)|(go_simp;rfl));intro gq hg w3 hbox hb;have n0_:=Aside0.mk (below_step qz1 hb);have n1_:=Aside0.mk (hbox);clear HB;have HB:=n0_;have BK:=n1_;clear n0_ n1_ hb hbox hg;have hcz4_0:w3.cell? ⟨gq,0,none⟩=some (.int .i64 x.f0):=(blk_cell BK.out 0).trans rfl;have hcz4_1:w3.cell? ⟨gq,1,none⟩=some (.int .i64 x.f1):=(blk_cell BK.out 1).trans rfl;have hcz4_2:w3.cell? ⟨gq,2,none⟩=some (.string x.f2):=(blk_cell BK.out 2).trans rfl))
  go_ret
  exact ⟨by rw [R.out];rfl,HB.out⟩
theorem below_pred' (x:Cat.Cell) (v:Int) (gb:Nat) (w:World) (hv:w.cell? ⟨gb,0,none⟩=some (.int .i64 v)):Calls Tryz.prog 92 (#[.agg #[.int .i64 x.f0,.int .i64 x.f1,.string x.f2]] ++ #[.pointer (some ⟨gb,0,none⟩)]) w fun e w'=>e = .returned (.bool (decide (x.f0=1) && decide (v≤x.f1)))∧Below w.heap.size w w':=by
 have ea:(#[.agg #[.int .i64 x.f0,.int .i64 x.f1,.string x.f2]] ++ #[.pointer (some ⟨gb,0,none⟩)]:Array Value) = #[.agg #[.int .i64 x.f0,.int .i64 x.f1,.string x.f2],.pointer (some ⟨gb,0,none⟩)]:=rfl
 rw [ea]
 exact below_pred x v gb w hv
theorem below_predC (v:Int) (gb:Nat) (w:World) (hv:w.cell? ⟨gb,0,none⟩=some (.int .i64 v)):PredC 92 #[.pointer (some ⟨gb,0,none⟩)] (fun c=>decide (c.f0=1) && decide (v≤c.f1)) w:=by
 intro W x hb
 exact below_pred' x v gb W ((hb.cell (World.block_lt_of_cell? w _ hv)).trans hv)
def impl_below.f (l0:List (S63)) (a1:Int):Option (Bool):=some (Cat.belowB a1 l0)
set_option maxHeartbeats 4000000 in
set_option maxRecDepth 100000 in
theorem impl_below.calls (A0:Option Addr) (c0:Nat) (l0:List (S63)) (a1:Int) (r:Bool) (w:World) (hr0:Kd.C k63 w A0 l0.length l0) (hc0:l0.length≤c0) (h:impl_below.f l0 a1=some r) :
  Calls Tryz.prog 65 #[.slice A0 l0.length c0,.int .i64 a1] w fun e w'=>e = .returned (.bool r)∧Below w.heap.size w w':=by
 obtain rfl:=Option.some.inj h
 clear h
 have eg:∀ args w,(callFunc 92 args).run Tryz.prog w = .ok (.enter 92 args) w:=by intro args w;first|rfl|kernel_rfl
 have HF:=Aside0.mk (fun lb=>containsFunc_cells 92 lb (fun c=>decide (c.f0=1) && decide (a1≤c.f1)) eg A0 c0 l0)
 have HC:=Aside0.mk hr0
 have HL:=Aside0.mk hc0
 have R:=Aside0.mk (show Cat.belowB a1 l0 = !(l0.any (fun c=>decide (c.f0=1) && decide (a1≤c.f1))) from rfl)
 have HB:=Aside0.mk (Below.refl w.heap.size w)
 have P1:=Aside0.mk (fun (gb:Nat) (w:World) (hv:w.cell? ⟨gb,0,none⟩=some (.int .i64 a1))=>below_predC a1 gb w hv)
 clear hr0 hc0 eg
 go_enter Tryz.func65,Tryz.ntmps65
 go_wp2_with (first|((with_reducible refine gate_dst (N:=3) rfl ?_);refine box_event ?hg (N:=3) ?hd (cs:=#[.int .i64 a1]) (t:=3) ?hr ?_;(case hd=>rfl);(case hg=>rfl);(case hr=>first|(go_simp;done)|(go_simp;rfl));intro gq hg w3 hbox hb;have n0_:=Aside0.mk (below_step qz1 hb);have n1_:=Aside0.mk (hbox);clear HB;have HB:=n0_;have BK:=n1_;clear n0_ n1_ hb hbox hg;have hcz4_0:=Aside0.mk (show w3.cell? ⟨gq,0,none⟩=some (.int .i64 a1) from (blk_cell BK.out 0).trans rfl))|(go_at_call 69;(refine (HF.out _ _ (Kd.C_below HC.out HB.out) HL.out (P1.out _ _ hcz4_0.out)).mono ?_);rintro e w' ⟨rfl,hb⟩;have n0_:=Aside0.mk (below_step HB.out hb);clear HB;have HB:=n0_;clear n0_ hb))
 go_ret
 exact ⟨by rw [R.out];rfl,HB.out⟩

/-! ### impl_inClause: function 39 -/
def impl_inClause.f (l0:List (S63)):Option (Bool):=if (l0.length:Int)≤12 then ((impl_below.f l0 8).bind fun t222=>(some t222)) else (some false)
set_option maxHeartbeats 8000000 in
set_option maxRecDepth 100000 in
theorem impl_inClause.calls (A0:Option Addr) (c0:Nat) (l0:List (S63)) (r:Bool) (w:World) (hr0:Kd.C k63 w A0 l0.length l0) (hc0:l0.length≤c0) (h:impl_inClause.f l0=some r) :
  Calls Tryz.prog 39 #[.slice A0 l0.length c0] w fun e w'=>e = .returned (.bool r)∧Below w.heap.size w w':=by
 have HR0:=Aside0.mk hr0
 have HC0:=Aside0.mk hc0
 clear hr0 hc0
 have HB:=Aside0.mk (Below.refl w.heap.size w)
 have H:(if (l0.length:Int)≤12 then ((impl_below.f l0 8).bind fun t222=>(some t222)) else (some false))=some r:=h
 clear h
 by_cases c2:(l0.length:Int)≤12
 ·rw [if_pos c2] at H
  have c2b0:decide ((l0.length:Int)≤12)=true:=decide_eq_true c2
  have c2b1:decide (l0.length≤12)=true:=decide_eq_true (by omega)
  clear c2
  replace H:=Option.bind_eq_some_iff.mp H
  obtain ⟨t222,A30,H⟩:=H
  try dsimp only at H
  have A3:=Aside0.mk A30
  clear A30
  obtain rfl:=Option.some.inj H
  go_enter Tryz.func39,Tryz.ntmps39
  go_wp2_with (first|(go_at_call 65;(with_reducible refine (impl_below.calls _ _ l0 8 t222 _ ?side1 ?side2 A3.out).mono ?_);(case side1=>exact qz100);(case side2=>exact HC0.out);rintro e w4 ⟨rfl,hb⟩;have n0_:=Aside0.mk (below_step qz1 hb);clear HB;have HB:=n0_;clear n0_;(try clear hb);(try clear hb2);(try clear hk);(try clear hi)))
  go_ret
  exact ⟨qz4,qz3⟩
 ·rw [if_neg c2] at H
  have c2b0:decide ((l0.length:Int)≤12)=false:=decide_eq_false c2
  have c2b1:decide (l0.length≤12)=false:=decide_eq_false (by omega)
  clear c2
  obtain rfl:=Option.some.inj H
  go_enter Tryz.func39,Tryz.ntmps39
  go_wp2
  go_ret
  exact ⟨qz4,qz3⟩

/-! ### impl_called: function 64 -/
def impl_called.f (l0:List (S63)):Option (Bool):=(impl_TrmOk.f l0).bind fun t223=>(if t223=true then (if 0<(l0.length:Int) then (some (((rd_T63 l0 0).f0) == 3)) else (none)) else (some false))
set_option maxHeartbeats 8000000 in
set_option maxRecDepth 100000 in
theorem impl_called.calls (A0:Option Addr) (c0:Nat) (l0:List (S63)) (r:Bool) (w:World) (hr0:Kd.C k63 w A0 l0.length l0) (hc0:l0.length≤c0) (h:impl_called.f l0=some r) :
  Calls Tryz.prog 64 #[.slice A0 l0.length c0] w fun e w'=>e = .returned (.bool r)∧Below w.heap.size w w':=by
 have HR0:=Aside0.mk hr0
 have HC0:=Aside0.mk hc0
 clear hr0 hc0
 have HB:=Aside0.mk (Below.refl w.heap.size w)
 have H:((impl_TrmOk.f l0).bind fun t223=>(if t223=true then (if 0<(l0.length:Int) then (some (((rd_T63 l0 0).f0) == 3)) else (none)) else (some false)))=some r:=h
 clear h
 replace H:=Option.bind_eq_some_iff.mp H
 obtain ⟨t223,A20,H⟩:=H
 try dsimp only at H
 have A2:=Aside0.mk A20
 clear A20
 by_cases c3:t223=true
 ·subst c3
  have H1:(if 0<(l0.length:Int) then (some (((rd_T63 l0 0).f0) == 3)) else (none))=some r:=qz57
  clear H
  have H:=H1
  clear H1
  by_cases c4:0<(l0.length:Int)
  ·rw [if_pos c4] at H
   have c4b0:decide (0<(l0.length:Int))=true:=decide_eq_true c4
   have c4b1:decide (0<l0.length)=true:=decide_eq_true (by omega)
   clear c4
   obtain rfl:=Option.some.inj H
   go_enter Tryz.func64,Tryz.ntmps64
   go_wp2_with (first|((with_reducible refine gate_callee (f:=42) rfl ?_);refine goesL_ (some 4) rfl rfl Tryz.func42 (by kernel_rfl) rfl #[.slice A0 l0.length c0] rfl qz2 ?_;(with_reducible refine (impl_TrmOk.calls _ _ l0 true _ ?side1 ?side2 A2.out).mono ?_);(case side1=>exact qz100);(case side2=>exact HC0.out);rintro e w5 ⟨rfl,hb⟩;refine ⟨_,rfl,?_⟩;have n0_:=Aside0.mk (below_step qz1 hb);clear HB;have HB:=n0_;clear n0_;(try clear hb);(try clear hb2);(try clear hk);(try clear hi);have p224:0≤(0:Int):=(by omega);have q224:0<(l0.length:Int):=of_decide_eq_true qz5;obtain ⟨ad224,e224,hx224_0,hx224_1,hx224_2⟩:=at_T63 HR0.out 0 p224 q224;cases e224;have qi224:(0<l0.length)=True:=eq_true (by omega);(try rw [show ((0:Int)).toNat=0 from rfl] at hx224_0);(try rw [show 0 * 3=0 from rfl] at hx224_0);(try rw [Addr.add_zero'] at hx224_0);(try rw [show ((0:Int)).toNat=0 from rfl] at hx224_1);(try rw [show 0 * 3=0 from rfl] at hx224_1);(try rw [Addr.add_zero'] at hx224_1);(try rw [show ((0:Int)).toNat=0 from rfl] at hx224_2);(try rw [show 0 * 3=0 from rfl] at hx224_2);(try rw [Addr.add_zero'] at hx224_2);replace hx224_0:=(HB.out.cell (World.block_lt_of_cell? w _ hx224_0)).trans hx224_0;replace hx224_1:=(HB.out.cell (World.block_lt_of_cell? w _ hx224_1)).trans hx224_1;replace hx224_2:=(HB.out.cell (World.block_lt_of_cell? w _ hx224_2)).trans hx224_2;replace p224:=eq_true p224;replace q224:=eq_true q224))
   go_ret
   exact ⟨qz4,qz3⟩
  ·rw [if_neg c4] at H
   exact absurd H (by simp)
 ·replace c3:=Bool.eq_false_iff.mpr c3
  subst c3
  have H1:(some false)=some r:=qz23
  clear H
  have H:=H1
  clear H1
  obtain rfl:=Option.some.inj H
  go_enter Tryz.func64,Tryz.ntmps64
  go_wp2_with (first|((with_reducible refine gate_callee (f:=42) rfl ?_);refine goesL_ (some 4) rfl rfl Tryz.func42 (by kernel_rfl) rfl #[.slice A0 l0.length c0] rfl qz2 ?_;(with_reducible refine (impl_TrmOk.calls _ _ l0 false _ ?side1 ?side2 A2.out).mono ?_);(case side1=>exact qz100);(case side2=>exact HC0.out);rintro e w6 ⟨rfl,hb⟩;refine ⟨_,rfl,?_⟩;have n0_:=Aside0.mk (below_step qz1 hb);clear HB;have HB:=n0_;clear n0_;(try clear hb);(try clear hb2);(try clear hk);(try clear hi)))
  go_ret
  exact ⟨qz4,qz3⟩

end Go.Proofs.YtlhniagacegbeaaGreatDoor.P
