/- Contracts of functions of the program: each as a Lean function, and that its call does what that says; printed by cprint.py (this session) over print.py of the kit. Conditions: the hypotheses of each theorem. -/
import Derived.Test.YtlhniagacegbeaaGreatDoorVZ
import Derived.Test.YtlhniagacegbeaaGreatDoorP0
import Derived.Test.YtlhniagacegbeaaGreatDoorP4
import Derived.Test.YtlhniagacegbeaaGreatDoorP5
namespace Go.Proofs.YtlhniagacegbeaaGreatDoor.P
open Go.RowKit Go.Proofs.YtlhniagacegbeaaGreatDoorW.PrintWords Go.Proofs.YtlhniagacegbeaaGreatDoorW.PrintLast Go.Proofs.YtlhniagacegbeaaGreatDoorW.PrintMore
attribute [local go_sem] max2_int min2_int max_two min_two max_three min_three max_four min_four   -- for this text's walks alone
set_option linter.unusedVariables false
set_option linter.unusedSimpArgs false

/-! ### spec_l1Take: function 71 -/
mutual
def spec_l1Take.j0:Nat→ByteArray→Int→Bool→Option (Int × Int × ByteArray × Int)
 | 0,_,_,_=>none
 | k+1,x0,x1,x53=>if x53=true then ((spec_l1Digits.f k x0 x1).bind fun t165=>(if 0≤x1 then (if x1≤t165 then (if t165≤(x0.size:Int) then ((spec_l1Num.f k (x0.extract (x1:Int).toNat (t165:Int).toNat)).bind fun t166=>(some (2,t166,(⟨#[]⟩:ByteArray),t165))) else (none)) else (none)) else (none))) else (spec_l1Take.l0 k x0 x1 x1)
def spec_l1Take.l0:Nat→ByteArray→Int→Int→Option (Int × Int × ByteArray × Int)
 | 0,_,_,_=>none
 | k+1,x0,x1,x10=>if x10<(x0.size:Int) then (if 0≤x10 then (if (bt x0 x10)≥97 then (spec_l1Take.j2 k x0 x1 x10 (decide ((bt x0 x10)≤122))) else (spec_l1Take.j2 k x0 x1 x10 false)) else (none)) else (spec_l1Take.j2 k x0 x1 x10 false)
def spec_l1Take.j2:Nat→ByteArray→Int→Int→Bool→Option (Int × Int × ByteArray × Int)
 | 0,_,_,_,_=>none
 | k+1,x0,x1,x10,x80=>if x80=true then (spec_l1Take.l0 k x0 x1 (wrap64 (x10+1))) else (if 0≤x1 then (if x1≤x10 then (if x10≤(x0.size:Int) then (some (3,0,x0.extract (x1:Int).toNat (x10:Int).toNat,x10)) else (none)) else (none)) else (none))
end
def spec_l1Take.f (k:Nat) (a0:ByteArray) (a1:Int):Option (Int × Int × ByteArray × Int):=if a1≥(a0.size:Int) then (some (0,0,(⟨#[]⟩:ByteArray),(-1))) else (if 0≤a1 then (if a1<(a0.size:Int) then (if (bt a0 a1)=88 then ((spec_l1Digits.f k a0 (wrap64 (a1+1))).bind fun t161=>(if 0≤(wrap64 (a1+1)) then (if (wrap64 (a1+1))≤t161 then (if t161≤(a0.size:Int) then ((spec_l1Num.f k (a0.extract ((wrap64 (a1+1)):Int).toNat (t161:Int).toNat)).bind fun t162=>(some (1,t162,(⟨#[]⟩:ByteArray),t161))) else (none)) else (none)) else (none))) else (if (bt a0 a1)=45 then ((spec_l1Digits.f k a0 (wrap64 (a1+1))).bind fun t163=>(if 0≤(wrap64 (a1+1)) then (if (wrap64 (a1+1))≤t163 then (if t163≤(a0.size:Int) then ((spec_l1Num.f k (a0.extract ((wrap64 (a1+1)):Int).toNat (t163:Int).toNat)).bind fun t164=>(some (2,wrap64 (-t164),(⟨#[]⟩:ByteArray),t163))) else (none)) else (none)) else (none))) else (if (bt a0 a1)≥48 then (spec_l1Take.j0 k a0 a1 (decide ((bt a0 a1)≤57))) else (spec_l1Take.j0 k a0 a1 false)))) else (none)) else (none))
set_option maxHeartbeats 8000000 in
set_option maxRecDepth 100000 in
theorem spec_l1Take.calls (k:Nat) (a0:ByteArray) (a1:Int) (r1:Int) (r2:Int) (r3:ByteArray) (r4:Int) (w:World) (h:spec_l1Take.f k a0 a1=some (r1,r2,r3,r4)) :
  Calls Tryz.prog 71 #[.string a0,.int .i64 a1] w fun e w'=>e = .returned (.tuple #[.agg #[.int .i64 r1,.int .i64 r2,.string r3],.int .i64 r4])∧Below w.heap.size w w':=by
 have hu63:=Tryz.underlying63
 have HB:=Aside0.mk (Below.refl w.heap.size w)
 have H:(if a1≥(a0.size:Int) then (some (0,0,(⟨#[]⟩:ByteArray),(-1))) else (if 0≤a1 then (if a1<(a0.size:Int) then (if (bt a0 a1)=88 then ((spec_l1Digits.f k a0 (wrap64 (a1+1))).bind fun t161=>(if 0≤(wrap64 (a1+1)) then (if (wrap64 (a1+1))≤t161 then (if t161≤(a0.size:Int) then ((spec_l1Num.f k (a0.extract ((wrap64 (a1+1)):Int).toNat (t161:Int).toNat)).bind fun t162=>(some (1,t162,(⟨#[]⟩:ByteArray),t161))) else (none)) else (none)) else (none))) else (if (bt a0 a1)=45 then ((spec_l1Digits.f k a0 (wrap64 (a1+1))).bind fun t163=>(if 0≤(wrap64 (a1+1)) then (if (wrap64 (a1+1))≤t163 then (if t163≤(a0.size:Int) then ((spec_l1Num.f k (a0.extract ((wrap64 (a1+1)):Int).toNat (t163:Int).toNat)).bind fun t164=>(some (2,wrap64 (-t164),(⟨#[]⟩:ByteArray),t163))) else (none)) else (none)) else (none))) else (if (bt a0 a1)≥48 then (spec_l1Take.j0 k a0 a1 (decide ((bt a0 a1)≤57))) else (spec_l1Take.j0 k a0 a1 false)))) else (none)) else (none)))=some (r1,r2,r3,r4):=h
 clear h
 by_cases c3:a1≥(a0.size:Int)
 ·rw [if_pos c3] at H
  have c3b0:decide ((a0.size:Int)≤a1)=true:=decide_eq_true c3
  clear c3
  simp only [Option.some.injEq,Prod.mk.injEq] at H
  obtain ⟨rfl,rfl,rfl,rfl⟩:=H
  go_enter Tryz.func71,Tryz.ntmps71
  go_wp2_with (first|((with_reducible refine gate_dst (N:=4) rfl ?_);refine box_event ?hg (N:=4) ?hd (cs:=#[.int .i64 0,.int .i64 0,.string (⟨#[]⟩:ByteArray)]) (t:=63) ?hr ?_;(case hd=>rfl);(case hg=>rfl);(case hr=>first|(go_simp;done)|(go_simp;rfl));intro gb160 hg w4 hbox hb;have n0_:=Aside0.mk (below_step qz1 hb);have n1_:=Aside0.mk (hbox);have n2_:=Aside0.mk ((by rw [hg];exact (below_size qz1):w.heap.size≤gb160));have n3_:=Aside0.mk ((by rw [hg];exact (below_size qz1):w.heap.size≤gb160));clear HB;have HB:=n0_;have BK160:=n1_;have GW160:=n2_;have GE160:=n3_;clear n0_ n1_ n2_ n3_ hb hbox hg;have hcz5_0:w4.cell? ⟨gb160,0,none⟩=some (.int .i64 0):=(blk_cell BK160.out 0).trans rfl;have hcz5_1:w4.cell? ⟨gb160,1,none⟩=some (.int .i64 0):=(blk_cell BK160.out 1).trans rfl;have hcz5_2:w4.cell? ⟨gb160,2,none⟩=some (.string (⟨#[]⟩:ByteArray)):=(blk_cell BK160.out 2).trans rfl;have hfz5_0:=blk_frozen BK160.out 0;have hfz5_1:=blk_frozen BK160.out 1;have hfz5_2:=blk_frozen BK160.out 2))
  refine bodyPost_ret (results_ct rfl _ _ gb160 63 #[.int .i64 0,.int .i64 0,.string (⟨#[]⟩:ByteArray)] (0,0) _ rfl (by (with_reducible repeat (first|refine blk_drewN ?_ _|refine blk_drew ?_|refine blk_alloc ?_ _));refine blk_put (cs:=#[.int .i64 0,.int .i64 0,.string (⟨#[]⟩:ByteArray)]) ?_ 2 _ rfl;(with_reducible repeat (first|refine blk_drewN ?_ _|refine blk_drew ?_|refine blk_alloc ?_ _));refine blk_put (cs:=#[.int .i64 0,.int .i64 0,.string (⟨#[]⟩:ByteArray)]) ?_ 1 _ rfl;(with_reducible repeat (first|refine blk_drewN ?_ _|refine blk_drew ?_|refine blk_alloc ?_ _));refine blk_put (cs:=#[.int .i64 0,.int .i64 0,.string (⟨#[]⟩:ByteArray)]) ?_ 0 _ rfl;(with_reducible repeat (first|refine blk_drewN ?_ _|refine blk_drew ?_|refine blk_alloc ?_ _));exact BK160.out) Tryz.underlying63 rfl (by kernel_rfl)) rfl ?_
  exact ⟨qz4,qz19⟩
 ·rw [if_neg c3] at H
  have c3b0:decide ((a0.size:Int)≤a1)=false:=decide_eq_false c3
  clear c3
  by_cases c6:0≤a1
  ·rw [if_pos c6] at H
   have c6b0:decide (0≤a1)=true:=decide_eq_true c6
   clear c6
   by_cases c7:a1<(a0.size:Int)
   ·rw [if_pos c7] at H
    have c7b0:decide (a1<(a0.size:Int))=true:=decide_eq_true c7
    clear c7
    by_cases c9:(bt a0 a1)=88
    ·rw [if_pos c9] at H
     have c9b0:((bt a0 a1) == 88)=true:=beq_iff_eq.mpr c9
     have c9b1:((bt a0 a1) != 88)=false:=bne_eq_false_iff_eq.mpr c9
     clear c9
     replace H:=Option.bind_eq_some_iff.mp H
     obtain ⟨t161,A100,H⟩:=H
     try dsimp only at H
     have A10:=Aside0.mk A100
     clear A100
     obtain ⟨ji11,hji11⟩:∃ j_:Int,(wrap64 (a1+1))=j_:=⟨_,rfl⟩
     replace H:(if 0≤(ji11) then (if (ji11)≤t161 then (if t161≤(a0.size:Int) then ((spec_l1Num.f k (a0.extract ((ji11):Int).toNat (t161:Int).toNat)).bind fun t162=>(some (1,t162,(⟨#[]⟩:ByteArray),t161))) else (none)) else (none)) else (none))=some (r1,r2,r3,r4):=by first|(rw [hji11] at H;exact H)|(simp only [hji11] at H ⊢;exact H)
     (try rw [hji11] at A10)
     have hji11w:(IntKind.i64.wrap (a1+1))=ji11:=(i64_w _).trans hji11
     by_cases c12:0≤(ji11)
     ·rw [if_pos c12] at H
      have c12b0:=eq_true c12
      have c12b1:decide (0≤(ji11))=true:=decide_eq_true c12
      clear c12
      by_cases c13:(ji11)≤t161
      ·rw [if_pos c13] at H
       have c13b0:=eq_true c13
       have c13b1:decide ((ji11)≤t161)=true:=decide_eq_true c13
       clear c13
       by_cases c14:t161≤(a0.size:Int)
       ·rw [if_pos c14] at H
        have c14b0:=eq_true c14
        have c14b1:decide (t161≤(a0.size:Int))=true:=decide_eq_true c14
        clear c14
        replace H:=Option.bind_eq_some_iff.mp H
        obtain ⟨t162,A150,H⟩:=H
        try dsimp only at H
        have A15:=Aside0.mk A150
        clear A150
        simp only [Option.some.injEq,Prod.mk.injEq] at H
        obtain ⟨rfl,rfl,rfl,rfl⟩:=H
        go_enter Tryz.func71,Tryz.ntmps71
        go_wp2_with (first|((with_reducible refine gate_dst (N:=4) rfl ?_);refine box_event ?hg (N:=4) ?hd (cs:=#[.int .i64 0,.int .i64 0,.string (⟨#[]⟩:ByteArray)]) (t:=63) ?hr ?_;(case hd=>rfl);(case hg=>rfl);(case hr=>first|(go_simp;done)|(go_simp;rfl));intro gb160 hg w16 hbox hb;have n0_:=Aside0.mk (below_step qz1 hb);have n1_:=Aside0.mk (hbox);have n2_:=Aside0.mk ((by rw [hg];exact (below_size qz1):w.heap.size≤gb160));have n3_:=Aside0.mk ((by rw [hg];exact (below_size qz1):w.heap.size≤gb160));clear HB;have HB:=n0_;have BK160:=n1_;have GW160:=n2_;have GE160:=n3_;clear n0_ n1_ n2_ n3_ hb hbox hg;have p8:0≤(a1:Int):=of_decide_eq_true qz5;have q8:a1<(a0.size:Int):=of_decide_eq_true qz5;have hx8:=bt_at a0 a1;replace p8:=eq_true p8;replace q8:=eq_true q8)|((with_reducible refine gate_callee (f:=95) rfl ?_);refine goesL_ (some 24) rfl rfl Tryz.func95 (by kernel_rfl) rfl #[.string a0,.int .i64 ji11] rfl qz177 ?_;(with_reducible refine (spec_l1Digits.calls k a0 ji11 t161 _ A10.out).mono ?_);rintro e w' ⟨rfl,⟨nd,rfl⟩⟩;refine ⟨_,rfl,?_⟩;(try (rw [drewN_self w16];generalize hq_:World.drewN w16 _=w16;have n0_:Aside0 (w16.heap[gb160]?=some (.cells #[.int .i64 0,.int .i64 0,.string (⟨#[]⟩:ByteArray)] 63 (0,0))):=⟨by rw [← hq_];exact qz53⟩;have n1_:Aside0 (Below w.heap.size w w16):=⟨by rw [← hq_];exact qz19⟩;clear BK160 HB hq_;have BK160:=n0_;have HB:=n1_;clear n0_ n1_)))|((with_reducible refine gate_callee (f:=96) rfl ?_);refine goesL_ (some 30) rfl rfl Tryz.func96 (by kernel_rfl) rfl #[.string (a0.extract ((ji11):Int).toNat (t161:Int).toNat)] rfl qz177 ?_;(with_reducible refine (spec_l1Num.calls k (a0.extract ((ji11):Int).toNat (t161:Int).toNat) t162 _ A15.out).mono ?_);rintro e w' ⟨rfl,⟨nd,rfl⟩⟩;refine ⟨_,rfl,?_⟩;(try (rw [drewN_self w16];generalize hq_:World.drewN w16 _=w16;have n0_:Aside0 (w16.heap[gb160]?=some (.cells #[.int .i64 0,.int .i64 0,.string (⟨#[]⟩:ByteArray)] 63 (0,0))):=⟨by rw [← hq_];exact qz53⟩;have n1_:Aside0 (Below w.heap.size w w16):=⟨by rw [← hq_];exact qz19⟩;clear BK160 HB hq_;have BK160:=n0_;have HB:=n1_;clear n0_ n1_));have hcz17_0:w16.cell? ⟨gb160,0,none⟩=some (.int .i64 0):=(blk_cell BK160.out 0).trans rfl;have hcz17_1:w16.cell? ⟨gb160,1,none⟩=some (.int .i64 0):=(blk_cell BK160.out 1).trans rfl;have hcz17_2:w16.cell? ⟨gb160,2,none⟩=some (.string (⟨#[]⟩:ByteArray)):=(blk_cell BK160.out 2).trans rfl;have hfz17_0:=blk_frozen BK160.out 0;have hfz17_1:=blk_frozen BK160.out 1;have hfz17_2:=blk_frozen BK160.out 2))
        refine bodyPost_ret (results_ct rfl _ _ gb160 63 #[.int .i64 1,.int .i64 t162,.string (⟨#[]⟩:ByteArray)] (0,0) _ rfl (by (with_reducible repeat (first|refine blk_drewN ?_ _|refine blk_drew ?_|refine blk_alloc ?_ _));refine blk_put (cs:=#[.int .i64 1,.int .i64 t162,.string (⟨#[]⟩:ByteArray)]) ?_ 2 _ rfl;(with_reducible repeat (first|refine blk_drewN ?_ _|refine blk_drew ?_|refine blk_alloc ?_ _));refine blk_put (cs:=#[.int .i64 1,.int .i64 0,.string (⟨#[]⟩:ByteArray)]) ?_ 1 _ rfl;(with_reducible repeat (first|refine blk_drewN ?_ _|refine blk_drew ?_|refine blk_alloc ?_ _));refine blk_put (cs:=#[.int .i64 0,.int .i64 0,.string (⟨#[]⟩:ByteArray)]) ?_ 0 _ rfl;(with_reducible repeat (first|refine blk_drewN ?_ _|refine blk_drew ?_|refine blk_alloc ?_ _));exact BK160.out) Tryz.underlying63 rfl (by kernel_rfl)) rfl ?_
        exact ⟨by first|rfl|(simp [errW_none,errW_some] <;> rfl)|(simp only [← hji11];first|rfl|(simp [errW_none,errW_some] <;> rfl))|(simp [*,errW_none,errW_some] <;> rfl),qz19⟩
       ·rw [if_neg c14] at H
        exact absurd H (by simp)
      ·rw [if_neg c13] at H
       exact absurd H (by simp)
     ·rw [if_neg c12] at H
      exact absurd H (by simp)
    ·rw [if_neg c9] at H
     have c9b0:((bt a0 a1) == 88)=false:=beq_eq_false_iff_ne.mpr c9
     have c9b1:((bt a0 a1) != 88)=true:=bne_iff_ne.mpr c9
     by_cases c18:(bt a0 a1)=45
     ·rw [if_pos c18] at H
      have c18b0:((bt a0 a1) == 45)=true:=beq_iff_eq.mpr c18
      have c18b1:((bt a0 a1) != 45)=false:=bne_eq_false_iff_eq.mpr c18
      clear c18
      replace H:=Option.bind_eq_some_iff.mp H
      obtain ⟨t163,A190,H⟩:=H
      try dsimp only at H
      have A19:=Aside0.mk A190
      clear A190
      obtain ⟨ji20,hji20⟩:∃ j_:Int,(wrap64 (a1+1))=j_:=⟨_,rfl⟩
      replace H:(if 0≤(ji20) then (if (ji20)≤t163 then (if t163≤(a0.size:Int) then ((spec_l1Num.f k (a0.extract ((ji20):Int).toNat (t163:Int).toNat)).bind fun t164=>(some (2,wrap64 (-t164),(⟨#[]⟩:ByteArray),t163))) else (none)) else (none)) else (none))=some (r1,r2,r3,r4):=by first|(rw [hji20] at H;exact H)|(simp only [hji20] at H ⊢;exact H)
      (try rw [hji20] at A19)
      have hji20w:(IntKind.i64.wrap (a1+1))=ji20:=(i64_w _).trans hji20
      by_cases c21:0≤(ji20)
      ·rw [if_pos c21] at H
       have c21b0:=eq_true c21
       have c21b1:decide (0≤(ji20))=true:=decide_eq_true c21
       clear c21
       by_cases c22:(ji20)≤t163
       ·rw [if_pos c22] at H
        have c22b0:=eq_true c22
        have c22b1:decide ((ji20)≤t163)=true:=decide_eq_true c22
        clear c22
        by_cases c23:t163≤(a0.size:Int)
        ·rw [if_pos c23] at H
         have c23b0:=eq_true c23
         have c23b1:decide (t163≤(a0.size:Int))=true:=decide_eq_true c23
         clear c23
         replace H:=Option.bind_eq_some_iff.mp H
         obtain ⟨t164,A240,H⟩:=H
         try dsimp only at H
         have A24:=Aside0.mk A240
         clear A240
         simp only [Option.some.injEq,Prod.mk.injEq] at H
         obtain ⟨rfl,rfl,rfl,rfl⟩:=H
         go_enter Tryz.func71,Tryz.ntmps71
         go_wp2_with (first|((with_reducible refine gate_dst (N:=4) rfl ?_);refine box_event ?hg (N:=4) ?hd (cs:=#[.int .i64 0,.int .i64 0,.string (⟨#[]⟩:ByteArray)]) (t:=63) ?hr ?_;(case hd=>rfl);(case hg=>rfl);(case hr=>first|(go_simp;done)|(go_simp;rfl));intro gb160 hg w25 hbox hb;have n0_:=Aside0.mk (below_step qz1 hb);have n1_:=Aside0.mk (hbox);have n2_:=Aside0.mk ((by rw [hg];exact (below_size qz1):w.heap.size≤gb160));have n3_:=Aside0.mk ((by rw [hg];exact (below_size qz1):w.heap.size≤gb160));clear HB;have HB:=n0_;have BK160:=n1_;have GW160:=n2_;have GE160:=n3_;clear n0_ n1_ n2_ n3_ hb hbox hg;have p8:0≤(a1:Int):=of_decide_eq_true qz5;have q8:a1<(a0.size:Int):=of_decide_eq_true qz5;have hx8:=bt_at a0 a1;replace p8:=eq_true p8;replace q8:=eq_true q8)|((with_reducible refine gate_callee (f:=95) rfl ?_);refine goesL_ (some 38) rfl rfl Tryz.func95 (by kernel_rfl) rfl #[.string a0,.int .i64 ji20] rfl qz176 ?_;(with_reducible refine (spec_l1Digits.calls k a0 ji20 t163 _ A19.out).mono ?_);rintro e w' ⟨rfl,⟨nd,rfl⟩⟩;refine ⟨_,rfl,?_⟩;(try (rw [drewN_self w25];generalize hq_:World.drewN w25 _=w25;have n0_:Aside0 (w25.heap[gb160]?=some (.cells #[.int .i64 0,.int .i64 0,.string (⟨#[]⟩:ByteArray)] 63 (0,0))):=⟨by rw [← hq_];exact qz53⟩;have n1_:Aside0 (Below w.heap.size w w25):=⟨by rw [← hq_];exact qz19⟩;clear BK160 HB hq_;have BK160:=n0_;have HB:=n1_;clear n0_ n1_)))|((with_reducible refine gate_callee (f:=96) rfl ?_);refine goesL_ (some 44) rfl rfl Tryz.func96 (by kernel_rfl) rfl #[.string (a0.extract ((ji20):Int).toNat (t163:Int).toNat)] rfl qz176 ?_;(with_reducible refine (spec_l1Num.calls k (a0.extract ((ji20):Int).toNat (t163:Int).toNat) t164 _ A24.out).mono ?_);rintro e w' ⟨rfl,⟨nd,rfl⟩⟩;refine ⟨_,rfl,?_⟩;(try (rw [drewN_self w25];generalize hq_:World.drewN w25 _=w25;have n0_:Aside0 (w25.heap[gb160]?=some (.cells #[.int .i64 0,.int .i64 0,.string (⟨#[]⟩:ByteArray)] 63 (0,0))):=⟨by rw [← hq_];exact qz53⟩;have n1_:Aside0 (Below w.heap.size w w25):=⟨by rw [← hq_];exact qz19⟩;clear BK160 HB hq_;have BK160:=n0_;have HB:=n1_;clear n0_ n1_));have hcz26_0:w25.cell? ⟨gb160,0,none⟩=some (.int .i64 0):=(blk_cell BK160.out 0).trans rfl;have hcz26_1:w25.cell? ⟨gb160,1,none⟩=some (.int .i64 0):=(blk_cell BK160.out 1).trans rfl;have hcz26_2:w25.cell? ⟨gb160,2,none⟩=some (.string (⟨#[]⟩:ByteArray)):=(blk_cell BK160.out 2).trans rfl;have hfz26_0:=blk_frozen BK160.out 0;have hfz26_1:=blk_frozen BK160.out 1;have hfz26_2:=blk_frozen BK160.out 2))
         refine bodyPost_ret (results_ct rfl _ _ gb160 63 #[.int .i64 2,.int .i64 (wrap64 (-t164)),.string (⟨#[]⟩:ByteArray)] (0,0) _ rfl (by (with_reducible repeat (first|refine blk_drewN ?_ _|refine blk_drew ?_|refine blk_alloc ?_ _));refine blk_put (cs:=#[.int .i64 2,.int .i64 (wrap64 (-t164)),.string (⟨#[]⟩:ByteArray)]) ?_ 2 _ rfl;(with_reducible repeat (first|refine blk_drewN ?_ _|refine blk_drew ?_|refine blk_alloc ?_ _));refine blk_put (cs:=#[.int .i64 2,.int .i64 0,.string (⟨#[]⟩:ByteArray)]) ?_ 1 _ rfl;(with_reducible repeat (first|refine blk_drewN ?_ _|refine blk_drew ?_|refine blk_alloc ?_ _));refine blk_put (cs:=#[.int .i64 0,.int .i64 0,.string (⟨#[]⟩:ByteArray)]) ?_ 0 _ rfl;(with_reducible repeat (first|refine blk_drewN ?_ _|refine blk_drew ?_|refine blk_alloc ?_ _));exact BK160.out) Tryz.underlying63 rfl (by kernel_rfl)) rfl ?_
         exact ⟨by first|rfl|(simp [errW_none,errW_some] <;> rfl)|(simp only [← hji20];first|rfl|(simp [errW_none,errW_some] <;> rfl))|(simp [*,errW_none,errW_some] <;> rfl),qz19⟩
        ·rw [if_neg c23] at H
         exact absurd H (by simp)
       ·rw [if_neg c22] at H
        exact absurd H (by simp)
      ·rw [if_neg c21] at H
       exact absurd H (by simp)
     ·rw [if_neg c18] at H
      have c18b0:((bt a0 a1) == 45)=false:=beq_eq_false_iff_ne.mpr c18
      have c18b1:((bt a0 a1) != 45)=true:=bne_iff_ne.mpr c18
      have HC27:=Aside0.mk H
      clear H
      go_enter Tryz.func71,Tryz.ntmps71
      go_upto_region 10 with (first|((with_reducible refine gate_dst (N:=4) rfl ?_);refine box_event ?hg (N:=4) ?hd (cs:=#[.int .i64 0,.int .i64 0,.string (⟨#[]⟩:ByteArray)]) (t:=63) ?hr ?_;(case hd=>rfl);(case hg=>rfl);(case hr=>first|(go_simp;done)|(go_simp;rfl));intro gb160 hg w28 hbox hb;have n0_:=Aside0.mk (below_step qz1 hb);have n1_:=Aside0.mk (hbox);have n2_:=Aside0.mk ((by rw [hg];exact (below_size qz1):w.heap.size≤gb160));have n3_:=Aside0.mk ((by rw [hg];exact (below_size qz1):w.heap.size≤gb160));clear HB;have HB:=n0_;have BK160:=n1_;have GW160:=n2_;have GE160:=n3_;clear n0_ n1_ n2_ n3_ hb hbox hg;have p8:0≤(a1:Int):=of_decide_eq_true qz5;have q8:a1<(a0.size:Int):=of_decide_eq_true qz5;have hx8:=bt_at a0 a1;replace p8:=eq_true p8;replace q8:=eq_true q8))
      (try simp only [Act.put,List.setIfInBounds_toArray,List.set_cons_zero,List.set_cons_succ])
      go_cut [53] (fun v53 wc=>∃ (kq:Nat) (x53_26:Bool),v53 = .bool x53_26∧Aside0 (spec_l1Take.j0 kq a0 a1 x53_26=some (r1,r2,r3,r4))∧Aside0 (kq≤k)∧Aside0 (wc.heap[gb160]?=some (.cells #[.int .i64 0,.int .i64 0,.string (⟨#[]⟩:ByteArray)] 63 (0,0)))∧Aside0 (Below w.heap.size w wc))
      case first=>
       have H:=HC27.out
       clear HC27
       by_cases c29:(bt a0 a1)≥48
       ·rw [if_pos c29] at H
        have c29b0:decide (48≤(bt a0 a1))=true:=decide_eq_true c29
        clear c29
        (first|rw [c29b0]|rw [c29b1]|(simp only [i64_w,i32_w];rw [c29b0])|skip)
        have H':=Aside0.mk H
        clear H
        go_wp2
        go_meet
        case rel=>exact ⟨_,(decide ((bt a0 a1)≤57)),qz9,H',⟨qz107⟩,⟨qz53⟩,⟨qz19⟩⟩
       ·rw [if_neg c29] at H
        have c29b0:decide (48≤(bt a0 a1))=false:=decide_eq_false c29
        clear c29
        (first|rw [c29b0]|rw [c29b1]|(simp only [i64_w,i32_w];rw [c29b0])|skip)
        have H':=Aside0.mk H
        clear H
        go_wp2
        go_meet
        case rel=>exact ⟨_,(false),qz9,H',⟨qz107⟩,⟨qz53⟩,⟨qz19⟩⟩
      case rest=>
       clear HC27
       try clear c1
       try clear c2
       try clear p2
       try clear c3
       try clear c3b0
       try clear c6
       try clear c6b0
       try clear p6
       try clear c7
       try clear c7b0
       try clear p8
       try clear q8
       try clear hx8
       try clear c9
       try clear c9b0
       try clear c9b1
       try clear c12
       try clear c12b0
       try clear c12b1
       try clear c13
       try clear c13b0
       try clear c13b1
       try clear c14
       try clear c14b0
       try clear c14b1
       try clear c18
       try clear c18b0
       try clear c18b1
       try clear c21
       try clear c21b0
       try clear c21b1
       try clear c22
       try clear c22b0
       try clear c22b1
       try clear c23
       try clear c23b0
       try clear c23b1
       try clear c29
       try clear c29b0
       try clear hcz17_0
       try clear hcz17_1
       try clear hcz17_2
       try clear hcz26_0
       try clear hcz26_1
       try clear hcz26_2
       try clear hcz5_0
       try clear hcz5_1
       try clear hcz5_2
       try clear hfz17_0
       try clear hfz17_1
       try clear hfz17_2
       try clear hfz26_0
       try clear hfz26_1
       try clear hfz26_2
       try clear hfz5_0
       try clear hfz5_1
       try clear hfz5_2
       try clear p8
       try clear q8
       obtain ⟨kq,x53_26,rfl,HA,HJ26,BK160,HB⟩:=hcut
       cases kq with
       | zero=>exact absurd HA.out (by simp [spec_l1Take.j0])
       | succ kj26=>
        have H:=HA.out
        clear HA
        simp only [spec_l1Take.j0] at H
        by_cases c30:x53_26=true
        ·subst c30
         have H1:((spec_l1Digits.f kj26 a0 a1).bind fun t165=>(if 0≤a1 then (if a1≤t165 then (if t165≤(a0.size:Int) then ((spec_l1Num.f kj26 (a0.extract (a1:Int).toNat (t165:Int).toNat)).bind fun t166=>(some (2,t166,(⟨#[]⟩:ByteArray),t165))) else (none)) else (none)) else (none)))=some (r1,r2,r3,r4):=qz57
         clear H
         have H:=H1
         clear H1
         replace H:=Option.bind_eq_some_iff.mp H
         obtain ⟨t165,A310,H⟩:=H
         try dsimp only at H
         have A31:=Aside0.mk A310
         clear A310
         by_cases c32:0≤a1
         ·rw [if_pos c32] at H
          have c32b0:=eq_true c32
          have c32b1:decide (0≤a1)=true:=decide_eq_true c32
          clear c32
          by_cases c33:a1≤t165
          ·rw [if_pos c33] at H
           have c33b0:=eq_true c33
           have c33b1:decide (a1≤t165)=true:=decide_eq_true c33
           clear c33
           by_cases c34:t165≤(a0.size:Int)
           ·rw [if_pos c34] at H
            have c34b0:=eq_true c34
            have c34b1:decide (t165≤(a0.size:Int))=true:=decide_eq_true c34
            clear c34
            replace H:=Option.bind_eq_some_iff.mp H
            obtain ⟨t166,A350,H⟩:=H
            try dsimp only at H
            have A35:=Aside0.mk A350
            clear A350
            simp only [Option.some.injEq,Prod.mk.injEq] at H
            obtain ⟨rfl,rfl,rfl,rfl⟩:=H
            go_wp2_with (first|((with_reducible refine gate_callee (f:=95) rfl ?_);refine goesL_ (some 56) rfl rfl Tryz.func95 (by kernel_rfl) rfl #[.string a0,.int .i64 a1] rfl qz2 ?_;(with_reducible refine (spec_l1Digits.calls kj26 a0 a1 t165 _ A31.out).mono ?_);rintro e w' ⟨rfl,⟨nd,rfl⟩⟩;refine ⟨_,rfl,?_⟩;(try (rw [drewN_self wc];generalize hq_:World.drewN wc _=wc;have n0_:Aside0 (wc.heap[gb160]?=some (.cells #[.int .i64 0,.int .i64 0,.string (⟨#[]⟩:ByteArray)] 63 (0,0))):=⟨by rw [← hq_];exact qz53⟩;have n1_:Aside0 (Below w.heap.size w wc):=⟨by rw [← hq_];exact qz19⟩;clear BK160 HB hq_;have BK160:=n0_;have HB:=n1_;clear n0_ n1_)))|((with_reducible refine gate_callee (f:=96) rfl ?_);refine goesL_ (some 61) rfl rfl Tryz.func96 (by kernel_rfl) rfl #[.string (a0.extract (a1:Int).toNat (t165:Int).toNat)] rfl qz2 ?_;(with_reducible refine (spec_l1Num.calls kj26 (a0.extract (a1:Int).toNat (t165:Int).toNat) t166 _ A35.out).mono ?_);rintro e w' ⟨rfl,⟨nd,rfl⟩⟩;refine ⟨_,rfl,?_⟩;(try (rw [drewN_self wc];generalize hq_:World.drewN wc _=wc;have n0_:Aside0 (wc.heap[gb160]?=some (.cells #[.int .i64 0,.int .i64 0,.string (⟨#[]⟩:ByteArray)] 63 (0,0))):=⟨by rw [← hq_];exact qz53⟩;have n1_:Aside0 (Below w.heap.size w wc):=⟨by rw [← hq_];exact qz19⟩;clear BK160 HB hq_;have BK160:=n0_;have HB:=n1_;clear n0_ n1_));have hcz36_0:wc.cell? ⟨gb160,0,none⟩=some (.int .i64 0):=(blk_cell BK160.out 0).trans rfl;have hcz36_1:wc.cell? ⟨gb160,1,none⟩=some (.int .i64 0):=(blk_cell BK160.out 1).trans rfl;have hcz36_2:wc.cell? ⟨gb160,2,none⟩=some (.string (⟨#[]⟩:ByteArray)):=(blk_cell BK160.out 2).trans rfl;have hfz36_0:=blk_frozen BK160.out 0;have hfz36_1:=blk_frozen BK160.out 1;have hfz36_2:=blk_frozen BK160.out 2))
            refine bodyPost_ret (results_ct rfl _ _ gb160 63 #[.int .i64 2,.int .i64 t166,.string (⟨#[]⟩:ByteArray)] (0,0) _ rfl (by (with_reducible repeat (first|refine blk_drewN ?_ _|refine blk_drew ?_|refine blk_alloc ?_ _));refine blk_put (cs:=#[.int .i64 2,.int .i64 t166,.string (⟨#[]⟩:ByteArray)]) ?_ 2 _ rfl;(with_reducible repeat (first|refine blk_drewN ?_ _|refine blk_drew ?_|refine blk_alloc ?_ _));refine blk_put (cs:=#[.int .i64 2,.int .i64 0,.string (⟨#[]⟩:ByteArray)]) ?_ 1 _ rfl;(with_reducible repeat (first|refine blk_drewN ?_ _|refine blk_drew ?_|refine blk_alloc ?_ _));refine blk_put (cs:=#[.int .i64 0,.int .i64 0,.string (⟨#[]⟩:ByteArray)]) ?_ 0 _ rfl;(with_reducible repeat (first|refine blk_drewN ?_ _|refine blk_drew ?_|refine blk_alloc ?_ _));exact BK160.out) Tryz.underlying63 rfl (by kernel_rfl)) rfl ?_
            exact ⟨qz4,qz19⟩
           ·rw [if_neg c34] at H
            exact absurd H (by simp)
          ·rw [if_neg c33] at H
           exact absurd H (by simp)
         ·rw [if_neg c32] at H
          exact absurd H (by simp)
        ·replace c30:=Bool.eq_false_iff.mpr c30
         subst c30
         have H1:(spec_l1Take.l0 kj26 a0 a1 a1)=some (r1,r2,r3,r4):=qz23
         clear H
         have H:=H1
         clear H1
         have H':=Aside0.mk H
         clear H
         go_wp2
         go_loopg [10] kj26 (fun kq v10 w'=>∃ (x10_2:Int),v10 = .int .i64 x10_2∧Aside0 (spec_l1Take.l0 kq a0 a1 x10_2=some (r1,r2,r3,r4))∧Aside0 (kq≤kj26)∧Aside0 (w'.heap[gb160]?=some (.cells #[.int .i64 0,.int .i64 0,.string (⟨#[]⟩:ByteArray)] 63 (0,0)))∧Aside0 (Below w.heap.size w w'))
         case atStart=>exact ⟨(a1),qz9,H',⟨Nat.le_refl _⟩,⟨qz53⟩,⟨qz19⟩⟩
         case round=>
          clear H'
          try clear c1
          try clear c2
          try clear p2
          try clear c3
          try clear c3b0
          try clear c6
          try clear c6b0
          try clear p6
          try clear c7
          try clear c7b0
          try clear p8
          try clear q8
          try clear hx8
          try clear c9
          try clear c9b0
          try clear c9b1
          try clear c12
          try clear c12b0
          try clear c12b1
          try clear c13
          try clear c13b0
          try clear c13b1
          try clear c14
          try clear c14b0
          try clear c14b1
          try clear c18
          try clear c18b0
          try clear c18b1
          try clear c21
          try clear c21b0
          try clear c21b1
          try clear c22
          try clear c22b0
          try clear c22b1
          try clear c23
          try clear c23b0
          try clear c23b1
          try clear c29
          try clear c29b0
          try clear c30
          try clear c32
          try clear c32b0
          try clear c32b1
          try clear c33
          try clear c33b0
          try clear c33b1
          try clear c34
          try clear c34b0
          try clear c34b1
          try clear hcz17_0
          try clear hcz17_1
          try clear hcz17_2
          try clear hcz26_0
          try clear hcz26_1
          try clear hcz26_2
          try clear hcz36_0
          try clear hcz36_1
          try clear hcz36_2
          try clear hcz5_0
          try clear hcz5_1
          try clear hcz5_2
          try clear hfz17_0
          try clear hfz17_1
          try clear hfz17_2
          try clear hfz26_0
          try clear hfz26_1
          try clear hfz26_2
          try clear hfz36_0
          try clear hfz36_1
          try clear hfz36_2
          try clear hfz5_0
          try clear hfz5_1
          try clear hfz5_2
          try clear p2
          try clear p6
          try clear p8
          try clear q8
          obtain ⟨x10_2,rfl,HA,HK2,BK160,HB⟩:=hrel
          cases gk with
          | zero=>exact absurd HA.out (by simp [spec_l1Take.l0])
          | succ k2=>
           have H:=HA.out
           clear HA
           simp only [spec_l1Take.l0] at H
           have HC37:=Aside0.mk H
           clear H
           go_upto_region 14 with (fail)
           go_cut [80] (fun v80 wc=>∃ (kq:Nat) (x80_36:Bool),v80 = .bool x80_36∧Aside0 (spec_l1Take.j2 kq a0 a1 x10_2 x80_36=some (r1,r2,r3,r4))∧Aside0 (kq≤k2)∧Aside0 (wc.heap[gb160]?=some (.cells #[.int .i64 0,.int .i64 0,.string (⟨#[]⟩:ByteArray)] 63 (0,0)))∧Aside0 (Below w.heap.size w wc))
           case first=>
            have H:=HC37.out
            clear HC37
            by_cases c38:x10_2<(a0.size:Int)
            ·rw [if_pos c38] at H
             have c38b0:decide (x10_2<(a0.size:Int))=true:=decide_eq_true c38
             clear c38
             (first|rw [c38b0]|rw [c38b1]|(simp only [i64_w,i32_w];rw [c38b0])|skip)
             by_cases c39:0≤x10_2
             ·rw [if_pos c39] at H
              have c39b0:decide (0≤x10_2)=true:=decide_eq_true c39
              clear c39
              by_cases c41:(bt a0 x10_2)≥97
              ·rw [if_pos c41] at H
               have c41b0:decide (97≤(bt a0 x10_2))=true:=decide_eq_true c41
               clear c41
               have H':=Aside0.mk H
               clear H
               have p40:0≤(x10_2:Int):=of_decide_eq_true qz5
               have q40:x10_2<(a0.size:Int):=of_decide_eq_true qz5
               have hx40:=bt_at a0 x10_2
               replace p40:=eq_true p40
               replace q40:=eq_true q40
               have p42:0≤(x10_2:Int):=of_decide_eq_true qz5
               have q42:x10_2<(a0.size:Int):=of_decide_eq_true qz5
               have hx42:=bt_at a0 x10_2
               replace p42:=eq_true p42
               replace q42:=eq_true q42
               go_wp2
               go_meet
               case rel=>exact ⟨_,(decide ((bt a0 x10_2)≤122)),qz9,H',⟨qz183⟩,⟨qz53⟩,⟨qz19⟩⟩
              ·rw [if_neg c41] at H
               have c41b0:decide (97≤(bt a0 x10_2))=false:=decide_eq_false c41
               clear c41
               have H':=Aside0.mk H
               clear H
               have p40:0≤(x10_2:Int):=of_decide_eq_true qz5
               have q40:x10_2<(a0.size:Int):=of_decide_eq_true qz5
               have hx40:=bt_at a0 x10_2
               replace p40:=eq_true p40
               replace q40:=eq_true q40
               go_wp2
               go_meet
               case rel=>exact ⟨_,(false),qz9,H',⟨qz183⟩,⟨qz53⟩,⟨qz19⟩⟩
             ·rw [if_neg c39] at H
              exact absurd H (by simp)
            ·rw [if_neg c38] at H
             have c38b0:decide (x10_2<(a0.size:Int))=false:=decide_eq_false c38
             clear c38
             (first|rw [c38b0]|rw [c38b1]|(simp only [i64_w,i32_w];rw [c38b0])|skip)
             have H':=Aside0.mk H
             clear H
             go_wp2
             go_meet
             case rel=>exact ⟨_,(false),qz9,H',⟨qz183⟩,⟨qz53⟩,⟨qz19⟩⟩
           case rest=>
            clear HC37
            try clear c1
            try clear c2
            try clear p2
            try clear c3
            try clear c3b0
            try clear c4
            try clear p4
            try clear q4
            try clear hx4
            try clear c6
            try clear c6b0
            try clear p6
            try clear c7
            try clear c7b0
            try clear p8
            try clear q8
            try clear hx8
            try clear c9
            try clear c9b0
            try clear c9b1
            try clear c12
            try clear c12b0
            try clear c12b1
            try clear c13
            try clear c13b0
            try clear c13b1
            try clear c14
            try clear c14b0
            try clear c14b1
            try clear c18
            try clear c18b0
            try clear c18b1
            try clear c21
            try clear c21b0
            try clear c21b1
            try clear c22
            try clear c22b0
            try clear c22b1
            try clear c23
            try clear c23b0
            try clear c23b1
            try clear c29
            try clear c29b0
            try clear c30
            try clear c32
            try clear c32b0
            try clear c32b1
            try clear c33
            try clear c33b0
            try clear c33b1
            try clear c34
            try clear c34b0
            try clear c34b1
            try clear c38
            try clear c38b0
            try clear c39
            try clear c39b0
            try clear p40
            try clear q40
            try clear hx40
            try clear c41
            try clear c41b0
            try clear p42
            try clear q42
            try clear hx42
            try clear hcz17_0
            try clear hcz17_1
            try clear hcz17_2
            try clear hcz26_0
            try clear hcz26_1
            try clear hcz26_2
            try clear hcz36_0
            try clear hcz36_1
            try clear hcz36_2
            try clear hcz5_0
            try clear hcz5_1
            try clear hcz5_2
            try clear hfz17_0
            try clear hfz17_1
            try clear hfz17_2
            try clear hfz26_0
            try clear hfz26_1
            try clear hfz26_2
            try clear hfz36_0
            try clear hfz36_1
            try clear hfz36_2
            try clear hfz5_0
            try clear hfz5_1
            try clear hfz5_2
            try clear p2
            try clear p40
            try clear p42
            try clear p6
            try clear p8
            try clear q40
            try clear q42
            try clear q8
            obtain ⟨kq,x80_36,rfl,HA,HJ36,BK160,HB⟩:=hcut
            cases kq with
            | zero=>exact absurd HA.out (by simp [spec_l1Take.j2])
            | succ kj36=>
             have H:=HA.out
             clear HA
             simp only [spec_l1Take.j2] at H
             by_cases c43:x80_36=true
             ·subst c43
              have H1:(spec_l1Take.l0 kj36 a0 a1 (wrap64 (x10_2+1)))=some (r1,r2,r3,r4):=qz57
              clear H
              have H:=H1
              clear H1
              have H':=Aside0.mk H
              clear H
              go_wp2
              go_roundg kj36
              case measure=>have:=HJ26.out;have:=HK2.out;have:=HJ36.out;omega
              case rel=>exact ⟨(wrap64 (x10_2+1)),qz9,H',⟨by have:=HJ26.out;have:=HK2.out;have:=HJ36.out;omega⟩,⟨qz53⟩,⟨qz19⟩⟩
             ·replace c43:=Bool.eq_false_iff.mpr c43
              subst c43
              have H1:(if 0≤a1 then (if a1≤x10_2 then (if x10_2≤(a0.size:Int) then (some (3,0,a0.extract (a1:Int).toNat (x10_2:Int).toNat,x10_2)) else (none)) else (none)) else (none))=some (r1,r2,r3,r4):=qz23
              clear H
              have H:=H1
              clear H1
              by_cases c44:0≤a1
              ·rw [if_pos c44] at H
               have c44b0:=eq_true c44
               have c44b1:decide (0≤a1)=true:=decide_eq_true c44
               clear c44
               by_cases c45:a1≤x10_2
               ·rw [if_pos c45] at H
                have c45b0:=eq_true c45
                have c45b1:decide (a1≤x10_2)=true:=decide_eq_true c45
                clear c45
                by_cases c46:x10_2≤(a0.size:Int)
                ·rw [if_pos c46] at H
                 have c46b0:=eq_true c46
                 have c46b1:decide (x10_2≤(a0.size:Int))=true:=decide_eq_true c46
                 clear c46
                 simp only [Option.some.injEq,Prod.mk.injEq] at H
                 obtain ⟨rfl,rfl,rfl,rfl⟩:=H
                 have hcz47_0:wc.cell? ⟨gb160,0,none⟩=some (.int .i64 0):=(blk_cell BK160.out 0).trans rfl
                 have hcz47_1:wc.cell? ⟨gb160,1,none⟩=some (.int .i64 0):=(blk_cell BK160.out 1).trans rfl
                 have hcz47_2:wc.cell? ⟨gb160,2,none⟩=some (.string (⟨#[]⟩:ByteArray)):=(blk_cell BK160.out 2).trans rfl
                 have hfz47_0:=blk_frozen BK160.out 0
                 have hfz47_1:=blk_frozen BK160.out 1
                 have hfz47_2:=blk_frozen BK160.out 2
                 go_wp2
                 refine bodyPost_ret (results_ct rfl _ _ gb160 63 #[.int .i64 3,.int .i64 0,.string (a0.extract (a1:Int).toNat (x10_2:Int).toNat)] (0,0) _ rfl (by (with_reducible repeat (first|refine blk_drewN ?_ _|refine blk_drew ?_|refine blk_alloc ?_ _));refine blk_put (cs:=#[.int .i64 3,.int .i64 0,.string (⟨#[]⟩:ByteArray)]) ?_ 2 _ rfl;(with_reducible repeat (first|refine blk_drewN ?_ _|refine blk_drew ?_|refine blk_alloc ?_ _));refine blk_put (cs:=#[.int .i64 3,.int .i64 0,.string (⟨#[]⟩:ByteArray)]) ?_ 1 _ rfl;(with_reducible repeat (first|refine blk_drewN ?_ _|refine blk_drew ?_|refine blk_alloc ?_ _));refine blk_put (cs:=#[.int .i64 0,.int .i64 0,.string (⟨#[]⟩:ByteArray)]) ?_ 0 _ rfl;(with_reducible repeat (first|refine blk_drewN ?_ _|refine blk_drew ?_|refine blk_alloc ?_ _));exact BK160.out) Tryz.underlying63 rfl (by kernel_rfl)) rfl ?_
                 exact ⟨qz4,qz19⟩
                ·rw [if_neg c46] at H
                 exact absurd H (by simp)
               ·rw [if_neg c45] at H
                exact absurd H (by simp)
              ·rw [if_neg c44] at H
               exact absurd H (by simp)
   ·rw [if_neg c7] at H
    exact absurd H (by simp)
  ·rw [if_neg c6] at H
   exact absurd H (by simp)

end Go.Proofs.YtlhniagacegbeaaGreatDoor.P
