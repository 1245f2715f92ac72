/- Contracts of functions of the program: each as a Lean function, and that its call does what that says; printed by cprint.py (this session) over print.py of the kit. Conditions: the hypotheses of each theorem. -/
import Derived.Test.YtlhniagacegbeaaGreatDoorVZ
import Derived.Test.YtlhniagacegbeaaGreatDoorP0
namespace Go.Proofs.YtlhniagacegbeaaGreatDoor.P
open Go.RowKit Go.Proofs.YtlhniagacegbeaaGreatDoorW.PrintWords Go.Proofs.YtlhniagacegbeaaGreatDoorW.PrintLast Go.Proofs.YtlhniagacegbeaaGreatDoorW.PrintMore
attribute [local go_sem] max2_int min2_int max_two min_two max_three min_three max_four min_four   -- for this text's walks alone
set_option linter.unusedVariables false
set_option linter.unusedSimpArgs false

/-! ### spec_l1In: function 109 -/
def spec_l1In.f (a0:Int) (a1:Int) (a2:Int):Option (Bool):=if a0≥a1 then (some (decide (a0≤a2))) else (some false)
set_option maxHeartbeats 8000000 in
set_option maxRecDepth 100000 in
theorem spec_l1In.calls (a0:Int) (a1:Int) (a2:Int) (r:Bool) (w:World) (h:spec_l1In.f a0 a1 a2=some r) :
  Calls Tryz.prog 109 #[.int .i64 a0,.int .i64 a1,.int .i64 a2] w fun e w'=>e = .returned (.bool r)∧Drawn0 w w':=by
 have H:(if a0≥a1 then (some (decide (a0≤a2))) else (some false))=some r:=h
 clear h
 by_cases c4:a0≥a1
 ·rw [if_pos c4] at H
  have c4b0:decide (a1≤a0)=true:=decide_eq_true c4
  clear c4
  obtain rfl:=Option.some.inj H
  go_enter Tryz.func109,Tryz.ntmps109
  go_wp2
  go_ret
  exact ⟨qz9,qz33⟩
 ·rw [if_neg c4] at H
  have c4b0:decide (a1≤a0)=false:=decide_eq_false c4
  clear c4
  obtain rfl:=Option.some.inj H
  go_enter Tryz.func109,Tryz.ntmps109
  go_wp2
  go_ret
  exact ⟨qz9,qz33⟩

/-! ### spec_l1Name: function 110 -/
mutual
def spec_l1Name.j0:Nat→ByteArray→Bool→Option (Bool)
 | 0,_,_=>none
 | k+1,x0,x15=>if x15=true then (some false) else (spec_l1Name.l0 k x0 0)
def spec_l1Name.l0:Nat→ByteArray→Int→Option (Bool)
 | 0,_,_=>none
 | k+1,x0,x3=>if x3<(x0.size:Int) then (if 0≤x3 then (if (bt x0 x3)<97 then (some false) else (if (bt x0 x3) > 122 then (some false) else (spec_l1Name.l0 k x0 (wrap64 (x3+1))))) else (none)) else (some true)
end
def spec_l1Name.f (k:Nat) (a0:ByteArray):Option (Bool):=if (a0.size:Int)=0 then (spec_l1Name.j0 k a0 true) else (if (a0.size:Int) > 8 then (spec_l1Name.j0 k a0 true) else (spec_l1Name.j0 k a0 (a0.toList == ([97,110,100]:List UInt8))))
set_option maxHeartbeats 8000000 in
set_option maxRecDepth 100000 in
theorem spec_l1Name.calls (k:Nat) (a0:ByteArray) (r:Bool) (w:World) (h:spec_l1Name.f k a0=some r) :
  Calls Tryz.prog 110 #[.string a0] w fun e w'=>e = .returned (.bool r)∧Drawn0 w w':=by
 have H:(if (a0.size:Int)=0 then (spec_l1Name.j0 k a0 true) else (if (a0.size:Int) > 8 then (spec_l1Name.j0 k a0 true) else (spec_l1Name.j0 k a0 (a0.toList == ([97,110,100]:List UInt8)))))=some r:=h
 clear h
 have HC2:=Aside0.mk H
 clear H
 go_enter Tryz.func110,Tryz.ntmps110
 go_upto_region 1 with (fail)
 go_cut [15] (fun v15 wc=>∃ (kq:Nat) (x15_1:Bool),v15 = .bool x15_1∧Aside0 (spec_l1Name.j0 kq a0 x15_1=some r)∧Aside0 (kq≤k)∧Drawn0 w wc)
 case first=>
  have H:=HC2.out
  clear HC2
  by_cases c3:(a0.size:Int)=0
  ·rw [if_pos c3] at H
   have c3b0:((a0.size:Int) == 0)=true:=beq_iff_eq.mpr c3
   have c3b1:((a0.size:Int) != 0)=false:=bne_eq_false_iff_eq.mpr c3
   clear c3
   (first|rw [c3b0]|rw [c3b1]|(simp only [i64_w,i32_w];rw [c3b0])|skip)
   have H':=Aside0.mk H
   clear H
   go_wp2
   go_meet
   case rel=>exact ⟨_,(true),qz9,H',⟨qz107⟩,qz33⟩
  ·rw [if_neg c3] at H
   have c3b0:((a0.size:Int) == 0)=false:=beq_eq_false_iff_ne.mpr c3
   have c3b1:((a0.size:Int) != 0)=true:=bne_iff_ne.mpr c3
   (first|rw [c3b0]|rw [c3b1]|(simp only [i64_w,i32_w];rw [c3b0])|skip)
   by_cases c4:(a0.size:Int) > 8
   ·rw [if_pos c4] at H
    have c4b0:decide (8<(a0.size:Int))=true:=decide_eq_true c4
    have c4b1:decide (8<a0.size)=true:=decide_eq_true (by omega)
    clear c4
    have H':=Aside0.mk H
    clear H
    go_wp2
    go_meet
    case rel=>exact ⟨_,(true),qz9,H',⟨qz107⟩,qz33⟩
   ·rw [if_neg c4] at H
    have c4b0:decide (8<(a0.size:Int))=false:=decide_eq_false c4
    have c4b1:decide (8<a0.size)=false:=decide_eq_false (by omega)
    clear c4
    have H':=Aside0.mk H
    clear H
    go_wp2
    go_meet
    case rel=>exact ⟨_,((a0.toList == ([97,110,100]:List UInt8))),qz9,H',⟨qz107⟩,qz33⟩
 case rest=>
  clear HC2
  try clear c1
  try clear p2
  try clear c3
  try clear c3b0
  try clear c3b1
  try clear c4
  try clear c4b0
  try clear c4b1
  obtain ⟨kq,x15_1,rfl,HA,HJ1,⟨mc1,rfl⟩⟩:=hcut
  cases kq with
  | zero=>exact absurd HA.out (by simp [spec_l1Name.j0])
  | succ kj1=>
   have H:=HA.out
   clear HA
   simp only [spec_l1Name.j0] at H
   by_cases c5:x15_1=true
   ·subst c5
    have H1:(some false)=some r:=qz57
    clear H
    have H:=H1
    clear H1
    obtain rfl:=Option.some.inj H
    go_wp2
    go_ret
    exact ⟨qz9,qz33⟩
   ·replace c5:=Bool.eq_false_iff.mpr c5
    subst c5
    have H1:(spec_l1Name.l0 kj1 a0 0)=some r:=qz23
    clear H
    have H:=H1
    clear H1
    have H':=Aside0.mk H
    clear H
    go_wp2
    go_loopg [3] kj1 (fun kq v3 w'=>∃ (x3_2:Int),v3 = .int .i64 x3_2∧Aside0 (spec_l1Name.l0 kq a0 x3_2=some r)∧Aside0 (kq≤kj1)∧Drawn0 w w')
    case atStart=>exact ⟨(0),qz9,H',⟨Nat.le_refl _⟩,qz33⟩
    case round=>
     clear H'
     try clear c1
     try clear p2
     try clear c3
     try clear c3b0
     try clear c3b1
     try clear c4
     try clear c4b0
     try clear c4b1
     try clear c5
     try clear p2
     obtain ⟨x3_2,rfl,HA,HK2,⟨m2,rfl⟩⟩:=hrel
     cases gk with
     | zero=>exact absurd HA.out (by simp [spec_l1Name.l0])
     | succ k2=>
      have H:=HA.out
      clear HA
      simp only [spec_l1Name.l0] at H
      by_cases c6:x3_2<(a0.size:Int)
      ·rw [if_pos c6] at H
       have c6b0:decide (x3_2<(a0.size:Int))=true:=decide_eq_true c6
       clear c6
       by_cases c7:0≤x3_2
       ·rw [if_pos c7] at H
        have c7b0:decide (0≤x3_2)=true:=decide_eq_true c7
        clear c7
        by_cases c9:(bt a0 x3_2)<97
        ·rw [if_pos c9] at H
         have c9b0:decide ((bt a0 x3_2)<97)=true:=decide_eq_true c9
         clear c9
         obtain rfl:=Option.some.inj H
         have p8:0≤(x3_2:Int):=of_decide_eq_true qz5
         have q8:x3_2<(a0.size:Int):=of_decide_eq_true qz5
         have hx8:=bt_at a0 x3_2
         replace p8:=eq_true p8
         replace q8:=eq_true q8
         go_wp2
         go_ret
         exact ⟨qz9,qz33⟩
        ·rw [if_neg c9] at H
         have c9b0:decide ((bt a0 x3_2)<97)=false:=decide_eq_false c9
         clear c9
         by_cases c11:(bt a0 x3_2) > 122
         ·rw [if_pos c11] at H
          have c11b0:decide (122<(bt a0 x3_2))=true:=decide_eq_true c11
          clear c11
          obtain rfl:=Option.some.inj H
          have p8:0≤(x3_2:Int):=of_decide_eq_true qz5
          have q8:x3_2<(a0.size:Int):=of_decide_eq_true qz5
          have hx8:=bt_at a0 x3_2
          replace p8:=eq_true p8
          replace q8:=eq_true q8
          have p10:0≤(x3_2:Int):=of_decide_eq_true qz5
          have q10:x3_2<(a0.size:Int):=of_decide_eq_true qz5
          have hx10:=bt_at a0 x3_2
          replace p10:=eq_true p10
          replace q10:=eq_true q10
          go_wp2
          go_ret
          exact ⟨qz9,qz33⟩
         ·rw [if_neg c11] at H
          have c11b0:decide (122<(bt a0 x3_2))=false:=decide_eq_false c11
          clear c11
          have H':=Aside0.mk H
          clear H
          have p8:0≤(x3_2:Int):=of_decide_eq_true qz5
          have q8:x3_2<(a0.size:Int):=of_decide_eq_true qz5
          have hx8:=bt_at a0 x3_2
          replace p8:=eq_true p8
          replace q8:=eq_true q8
          have p10:0≤(x3_2:Int):=of_decide_eq_true qz5
          have q10:x3_2<(a0.size:Int):=of_decide_eq_true qz5
          have hx10:=bt_at a0 x3_2
          replace p10:=eq_true p10
          replace q10:=eq_true q10
          go_wp2
          go_roundg k2
          case measure=>have:=HJ1.out;have:=HK2.out;omega
          case rel=>exact ⟨(wrap64 (x3_2+1)),qz9,H',⟨qz181⟩,qz33⟩
       ·rw [if_neg c7] at H
        exact absurd H (by simp)
      ·rw [if_neg c6] at H
       have c6b0:decide (x3_2<(a0.size:Int))=false:=decide_eq_false c6
       clear c6
       obtain rfl:=Option.some.inj H
       go_wp2
       go_ret
       exact ⟨qz9,qz33⟩

/-! ### spec_l1Cell: function 89 -/
def spec_l1Cell.f (k:Nat) (a0_0:Int) (a0_1:Int) (a0_2:ByteArray):Option (Bool):=if a0_0=1 then ((spec_l1In.f a0_1 0 99999).bind fun t102=>(if t102=true then (some (a0_2.toList == ([]:List UInt8))) else (some false))) else (if a0_0=2 then ((spec_l1In.f a0_1 (-9999) 9999).bind fun t103=>(if t103=true then (some (a0_2.toList == ([]:List UInt8))) else (some false))) else (if a0_0=3 then ((spec_l1In.f a0_1 0 3).bind fun t104=>(if t104=true then ((spec_l1Name.f k a0_2).bind fun t105=>(some t105)) else (some false))) else (some false)))
set_option maxHeartbeats 8000000 in
set_option maxRecDepth 100000 in
theorem spec_l1Cell.calls (k:Nat) (a0_0:Int) (a0_1:Int) (a0_2:ByteArray) (r:Bool) (w:World) (h:spec_l1Cell.f k a0_0 a0_1 a0_2=some r) :
  Calls Tryz.prog 89 #[.agg #[.int .i64 a0_0,.int .i64 a0_1,.string a0_2]] w fun e w'=>e = .returned (.bool r)∧Below w.heap.size w w':=by
 have hu63:=Tryz.underlying63
 have HB:=Aside0.mk (Below.refl w.heap.size w)
 have H:(if a0_0=1 then ((spec_l1In.f a0_1 0 99999).bind fun t102=>(if t102=true then (some (a0_2.toList == ([]:List UInt8))) else (some false))) else (if a0_0=2 then ((spec_l1In.f a0_1 (-9999) 9999).bind fun t103=>(if t103=true then (some (a0_2.toList == ([]:List UInt8))) else (some false))) else (if a0_0=3 then ((spec_l1In.f a0_1 0 3).bind fun t104=>(if t104=true then ((spec_l1Name.f k a0_2).bind fun t105=>(some t105)) else (some false))) else (some false))))=some r:=h
 clear h
 by_cases c2:a0_0=1
 ·rw [if_pos c2] at H
  have c2b0:(a0_0 == 1)=true:=beq_iff_eq.mpr c2
  have c2b1:(a0_0 != 1)=false:=bne_eq_false_iff_eq.mpr c2
  clear c2
  replace H:=Option.bind_eq_some_iff.mp H
  obtain ⟨t102,A30,H⟩:=H
  try dsimp only at H
  have A3:=Aside0.mk A30
  clear A30
  by_cases c4:t102=true
  ·subst c4
   have H1:(some (a0_2.toList == ([]:List UInt8)))=some r:=qz57
   clear H
   have H:=H1
   clear H1
   obtain rfl:=Option.some.inj H
   go_enter Tryz.func89,Tryz.ntmps89
   go_wp2_with (first|((with_reducible refine gate_dst (N:=1) rfl ?_);refine box_event ?hg (N:=1) ?hd (cs:=#[.int .i64 a0_0,.int .i64 a0_1,.string a0_2]) (t:=63) ?hr ?_;(case hd=>rfl);(case hg=>rfl);(case hr=>first|(go_simp;done)|(go_simp;rfl));intro gb101 hg w5 hbox hb;have n0_:=Aside0.mk (below_step qz1 hb);have n1_:=Aside0.mk (hbox);have n2_:=Aside0.mk ((by rw [hg];exact (below_size qz1):w.heap.size≤gb101));have n3_:=Aside0.mk ((by rw [hg];exact (below_size qz1):w.heap.size≤gb101));clear HB;have HB:=n0_;have BK101:=n1_;have GW101:=n2_;have GE101:=n3_;clear n0_ n1_ n2_ n3_ hb hbox hg;have hcz6_0:w5.cell? ⟨gb101,0,none⟩=some (.int .i64 a0_0):=(blk_cell BK101.out 0).trans rfl;have hcz6_1:w5.cell? ⟨gb101,1,none⟩=some (.int .i64 a0_1):=(blk_cell BK101.out 1).trans rfl;have hcz6_2:w5.cell? ⟨gb101,2,none⟩=some (.string a0_2):=(blk_cell BK101.out 2).trans rfl;have hfz6_0:=blk_frozen BK101.out 0;have hfz6_1:=blk_frozen BK101.out 1;have hfz6_2:=blk_frozen BK101.out 2)|((with_reducible refine gate_callee (f:=109) rfl ?_);refine goesL_ (some 9) rfl rfl Tryz.func109 (by kernel_rfl) rfl #[.int .i64 a0_1,.int .i64 0,.int .i64 99999] rfl qz2 ?_;(with_reducible refine (spec_l1In.calls a0_1 0 99999 true _ A3.out).mono ?_);rintro e w' ⟨rfl,⟨nd,rfl⟩⟩;refine ⟨_,rfl,?_⟩))
   go_ret
   exact ⟨qz4,qz70⟩
  ·replace c4:=Bool.eq_false_iff.mpr c4
   subst c4
   have H1:(some false)=some r:=qz23
   clear H
   have H:=H1
   clear H1
   obtain rfl:=Option.some.inj H
   go_enter Tryz.func89,Tryz.ntmps89
   go_wp2_with (first|((with_reducible refine gate_dst (N:=1) rfl ?_);refine box_event ?hg (N:=1) ?hd (cs:=#[.int .i64 a0_0,.int .i64 a0_1,.string a0_2]) (t:=63) ?hr ?_;(case hd=>rfl);(case hg=>rfl);(case hr=>first|(go_simp;done)|(go_simp;rfl));intro gb101 hg w7 hbox hb;have n0_:=Aside0.mk (below_step qz1 hb);have n1_:=Aside0.mk (hbox);have n2_:=Aside0.mk ((by rw [hg];exact (below_size qz1):w.heap.size≤gb101));have n3_:=Aside0.mk ((by rw [hg];exact (below_size qz1):w.heap.size≤gb101));clear HB;have HB:=n0_;have BK101:=n1_;have GW101:=n2_;have GE101:=n3_;clear n0_ n1_ n2_ n3_ hb hbox hg;have hcz8_0:w7.cell? ⟨gb101,0,none⟩=some (.int .i64 a0_0):=(blk_cell BK101.out 0).trans rfl;have hcz8_1:w7.cell? ⟨gb101,1,none⟩=some (.int .i64 a0_1):=(blk_cell BK101.out 1).trans rfl;have hcz8_2:w7.cell? ⟨gb101,2,none⟩=some (.string a0_2):=(blk_cell BK101.out 2).trans rfl;have hfz8_0:=blk_frozen BK101.out 0;have hfz8_1:=blk_frozen BK101.out 1;have hfz8_2:=blk_frozen BK101.out 2)|((with_reducible refine gate_callee (f:=109) rfl ?_);refine goesL_ (some 9) rfl rfl Tryz.func109 (by kernel_rfl) rfl #[.int .i64 a0_1,.int .i64 0,.int .i64 99999] rfl qz2 ?_;(with_reducible refine (spec_l1In.calls a0_1 0 99999 false _ A3.out).mono ?_);rintro e w' ⟨rfl,⟨nd,rfl⟩⟩;refine ⟨_,rfl,?_⟩))
   go_ret
   exact ⟨qz4,qz70⟩
 ·rw [if_neg c2] at H
  have c2b0:(a0_0 == 1)=false:=beq_eq_false_iff_ne.mpr c2
  have c2b1:(a0_0 != 1)=true:=bne_iff_ne.mpr c2
  by_cases c9:a0_0=2
  ·rw [if_pos c9] at H
   have c9b0:(a0_0 == 2)=true:=beq_iff_eq.mpr c9
   have c9b1:(a0_0 != 2)=false:=bne_eq_false_iff_eq.mpr c9
   clear c9
   replace H:=Option.bind_eq_some_iff.mp H
   obtain ⟨t103,A100,H⟩:=H
   try dsimp only at H
   have A10:=Aside0.mk A100
   clear A100
   by_cases c11:t103=true
   ·subst c11
    have H1:(some (a0_2.toList == ([]:List UInt8)))=some r:=qz57
    clear H
    have H:=H1
    clear H1
    obtain rfl:=Option.some.inj H
    go_enter Tryz.func89,Tryz.ntmps89
    go_wp2_with (first|((with_reducible refine gate_dst (N:=1) rfl ?_);refine box_event ?hg (N:=1) ?hd (cs:=#[.int .i64 a0_0,.int .i64 a0_1,.string a0_2]) (t:=63) ?hr ?_;(case hd=>rfl);(case hg=>rfl);(case hr=>first|(go_simp;done)|(go_simp;rfl));intro gb101 hg w12 hbox hb;have n0_:=Aside0.mk (below_step qz1 hb);have n1_:=Aside0.mk (hbox);have n2_:=Aside0.mk ((by rw [hg];exact (below_size qz1):w.heap.size≤gb101));have n3_:=Aside0.mk ((by rw [hg];exact (below_size qz1):w.heap.size≤gb101));clear HB;have HB:=n0_;have BK101:=n1_;have GW101:=n2_;have GE101:=n3_;clear n0_ n1_ n2_ n3_ hb hbox hg;have hcz13_0:w12.cell? ⟨gb101,0,none⟩=some (.int .i64 a0_0):=(blk_cell BK101.out 0).trans rfl;have hcz13_1:w12.cell? ⟨gb101,1,none⟩=some (.int .i64 a0_1):=(blk_cell BK101.out 1).trans rfl;have hcz13_2:w12.cell? ⟨gb101,2,none⟩=some (.string a0_2):=(blk_cell BK101.out 2).trans rfl;have hfz13_0:=blk_frozen BK101.out 0;have hfz13_1:=blk_frozen BK101.out 1;have hfz13_2:=blk_frozen BK101.out 2)|((with_reducible refine gate_callee (f:=109) rfl ?_);refine goesL_ (some 19) rfl rfl Tryz.func109 (by kernel_rfl) rfl #[.int .i64 a0_1,.int .i64 (-9999),.int .i64 9999] rfl qz2 ?_;(with_reducible refine (spec_l1In.calls a0_1 (-9999) 9999 true _ A10.out).mono ?_);rintro e w' ⟨rfl,⟨nd,rfl⟩⟩;refine ⟨_,rfl,?_⟩))
    go_ret
    exact ⟨qz4,qz70⟩
   ·replace c11:=Bool.eq_false_iff.mpr c11
    subst c11
    have H1:(some false)=some r:=qz23
    clear H
    have H:=H1
    clear H1
    obtain rfl:=Option.some.inj H
    go_enter Tryz.func89,Tryz.ntmps89
    go_wp2_with (first|((with_reducible refine gate_dst (N:=1) rfl ?_);refine box_event ?hg (N:=1) ?hd (cs:=#[.int .i64 a0_0,.int .i64 a0_1,.string a0_2]) (t:=63) ?hr ?_;(case hd=>rfl);(case hg=>rfl);(case hr=>first|(go_simp;done)|(go_simp;rfl));intro gb101 hg w14 hbox hb;have n0_:=Aside0.mk (below_step qz1 hb);have n1_:=Aside0.mk (hbox);have n2_:=Aside0.mk ((by rw [hg];exact (below_size qz1):w.heap.size≤gb101));have n3_:=Aside0.mk ((by rw [hg];exact (below_size qz1):w.heap.size≤gb101));clear HB;have HB:=n0_;have BK101:=n1_;have GW101:=n2_;have GE101:=n3_;clear n0_ n1_ n2_ n3_ hb hbox hg;have hcz15_0:w14.cell? ⟨gb101,0,none⟩=some (.int .i64 a0_0):=(blk_cell BK101.out 0).trans rfl;have hcz15_1:w14.cell? ⟨gb101,1,none⟩=some (.int .i64 a0_1):=(blk_cell BK101.out 1).trans rfl;have hcz15_2:w14.cell? ⟨gb101,2,none⟩=some (.string a0_2):=(blk_cell BK101.out 2).trans rfl;have hfz15_0:=blk_frozen BK101.out 0;have hfz15_1:=blk_frozen BK101.out 1;have hfz15_2:=blk_frozen BK101.out 2)|((with_reducible refine gate_callee (f:=109) rfl ?_);refine goesL_ (some 19) rfl rfl Tryz.func109 (by kernel_rfl) rfl #[.int .i64 a0_1,.int .i64 (-9999),.int .i64 9999] rfl qz2 ?_;(with_reducible refine (spec_l1In.calls a0_1 (-9999) 9999 false _ A10.out).mono ?_);rintro e w' ⟨rfl,⟨nd,rfl⟩⟩;refine ⟨_,rfl,?_⟩))
    go_ret
    exact ⟨qz4,qz70⟩
  ·rw [if_neg c9] at H
   have c9b0:(a0_0 == 2)=false:=beq_eq_false_iff_ne.mpr c9
   have c9b1:(a0_0 != 2)=true:=bne_iff_ne.mpr c9
   by_cases c16:a0_0=3
   ·rw [if_pos c16] at H
    have c16b0:(a0_0 == 3)=true:=beq_iff_eq.mpr c16
    have c16b1:(a0_0 != 3)=false:=bne_eq_false_iff_eq.mpr c16
    clear c16
    replace H:=Option.bind_eq_some_iff.mp H
    obtain ⟨t104,A170,H⟩:=H
    try dsimp only at H
    have A17:=Aside0.mk A170
    clear A170
    by_cases c18:t104=true
    ·subst c18
     have H1:((spec_l1Name.f k a0_2).bind fun t105=>(some t105))=some r:=qz57
     clear H
     have H:=H1
     clear H1
     replace H:=Option.bind_eq_some_iff.mp H
     obtain ⟨t105,A190,H⟩:=H
     try dsimp only at H
     have A19:=Aside0.mk A190
     clear A190
     obtain rfl:=Option.some.inj H
     go_enter Tryz.func89,Tryz.ntmps89
     go_wp2_with (first|((with_reducible refine gate_dst (N:=1) rfl ?_);refine box_event ?hg (N:=1) ?hd (cs:=#[.int .i64 a0_0,.int .i64 a0_1,.string a0_2]) (t:=63) ?hr ?_;(case hd=>rfl);(case hg=>rfl);(case hr=>first|(go_simp;done)|(go_simp;rfl));intro gb101 hg w20 hbox hb;have n0_:=Aside0.mk (below_step qz1 hb);have n1_:=Aside0.mk (hbox);have n2_:=Aside0.mk ((by rw [hg];exact (below_size qz1):w.heap.size≤gb101));have n3_:=Aside0.mk ((by rw [hg];exact (below_size qz1):w.heap.size≤gb101));clear HB;have HB:=n0_;have BK101:=n1_;have GW101:=n2_;have GE101:=n3_;clear n0_ n1_ n2_ n3_ hb hbox hg;have hcz21_0:w20.cell? ⟨gb101,0,none⟩=some (.int .i64 a0_0):=(blk_cell BK101.out 0).trans rfl;have hcz21_1:w20.cell? ⟨gb101,1,none⟩=some (.int .i64 a0_1):=(blk_cell BK101.out 1).trans rfl;have hcz21_2:w20.cell? ⟨gb101,2,none⟩=some (.string a0_2):=(blk_cell BK101.out 2).trans rfl;have hfz21_0:=blk_frozen BK101.out 0;have hfz21_1:=blk_frozen BK101.out 1;have hfz21_2:=blk_frozen BK101.out 2)|((with_reducible refine gate_callee (f:=109) rfl ?_);refine goesL_ (some 29) rfl rfl Tryz.func109 (by kernel_rfl) rfl #[.int .i64 a0_1,.int .i64 0,.int .i64 3] rfl qz2 ?_;(with_reducible refine (spec_l1In.calls a0_1 0 3 true _ A17.out).mono ?_);rintro e w' ⟨rfl,⟨nd,rfl⟩⟩;refine ⟨_,rfl,?_⟩)|(go_at_call 110;(with_reducible refine (spec_l1Name.calls k a0_2 t105 _ A19.out).mono ?_);rintro e w' ⟨rfl,⟨nd,rfl⟩⟩))
     go_ret
     exact ⟨qz4,qz70⟩
    ·replace c18:=Bool.eq_false_iff.mpr c18
     subst c18
     have H1:(some false)=some r:=qz23
     clear H
     have H:=H1
     clear H1
     obtain rfl:=Option.some.inj H
     go_enter Tryz.func89,Tryz.ntmps89
     go_wp2_with (first|((with_reducible refine gate_dst (N:=1) rfl ?_);refine box_event ?hg (N:=1) ?hd (cs:=#[.int .i64 a0_0,.int .i64 a0_1,.string a0_2]) (t:=63) ?hr ?_;(case hd=>rfl);(case hg=>rfl);(case hr=>first|(go_simp;done)|(go_simp;rfl));intro gb101 hg w22 hbox hb;have n0_:=Aside0.mk (below_step qz1 hb);have n1_:=Aside0.mk (hbox);have n2_:=Aside0.mk ((by rw [hg];exact (below_size qz1):w.heap.size≤gb101));have n3_:=Aside0.mk ((by rw [hg];exact (below_size qz1):w.heap.size≤gb101));clear HB;have HB:=n0_;have BK101:=n1_;have GW101:=n2_;have GE101:=n3_;clear n0_ n1_ n2_ n3_ hb hbox hg;have hcz23_0:w22.cell? ⟨gb101,0,none⟩=some (.int .i64 a0_0):=(blk_cell BK101.out 0).trans rfl;have hcz23_1:w22.cell? ⟨gb101,1,none⟩=some (.int .i64 a0_1):=(blk_cell BK101.out 1).trans rfl;have hcz23_2:w22.cell? ⟨gb101,2,none⟩=some (.string a0_2):=(blk_cell BK101.out 2).trans rfl;have hfz23_0:=blk_frozen BK101.out 0;have hfz23_1:=blk_frozen BK101.out 1;have hfz23_2:=blk_frozen BK101.out 2)|((with_reducible refine gate_callee (f:=109) rfl ?_);refine goesL_ (some 29) rfl rfl Tryz.func109 (by kernel_rfl) rfl #[.int .i64 a0_1,.int .i64 0,.int .i64 3] rfl qz2 ?_;(with_reducible refine (spec_l1In.calls a0_1 0 3 false _ A17.out).mono ?_);rintro e w' ⟨rfl,⟨nd,rfl⟩⟩;refine ⟨_,rfl,?_⟩))
     go_ret
     exact ⟨qz4,qz70⟩
   ·rw [if_neg c16] at H
    have c16b0:(a0_0 == 3)=false:=beq_eq_false_iff_ne.mpr c16
    have c16b1:(a0_0 != 3)=true:=bne_iff_ne.mpr c16
    obtain rfl:=Option.some.inj H
    go_enter Tryz.func89,Tryz.ntmps89
    go_wp2_with (first|((with_reducible refine gate_dst (N:=1) rfl ?_);refine box_event ?hg (N:=1) ?hd (cs:=#[.int .i64 a0_0,.int .i64 a0_1,.string a0_2]) (t:=63) ?hr ?_;(case hd=>rfl);(case hg=>rfl);(case hr=>first|(go_simp;done)|(go_simp;rfl));intro gb101 hg w24 hbox hb;have n0_:=Aside0.mk (below_step qz1 hb);have n1_:=Aside0.mk (hbox);have n2_:=Aside0.mk ((by rw [hg];exact (below_size qz1):w.heap.size≤gb101));have n3_:=Aside0.mk ((by rw [hg];exact (below_size qz1):w.heap.size≤gb101));clear HB;have HB:=n0_;have BK101:=n1_;have GW101:=n2_;have GE101:=n3_;clear n0_ n1_ n2_ n3_ hb hbox hg;have hcz25_0:w24.cell? ⟨gb101,0,none⟩=some (.int .i64 a0_0):=(blk_cell BK101.out 0).trans rfl;have hcz25_1:w24.cell? ⟨gb101,1,none⟩=some (.int .i64 a0_1):=(blk_cell BK101.out 1).trans rfl;have hcz25_2:w24.cell? ⟨gb101,2,none⟩=some (.string a0_2):=(blk_cell BK101.out 2).trans rfl;have hfz25_0:=blk_frozen BK101.out 0;have hfz25_1:=blk_frozen BK101.out 1;have hfz25_2:=blk_frozen BK101.out 2))
    go_ret
    exact ⟨qz4,qz70⟩

/-! ### spec_l1End: function 90 -/
mutual
def spec_l1End.l0:Nat→List (S63)→Int→Int→Option (Int)
 | 0,_,_,_=>none
 | k+1,x0,x5,x6=>if x5 > 0 then (if x6<0 then (spec_l1End.j1 k x0 x5 x6 true) else (spec_l1End.j1 k x0 x5 x6 (decide (x6≥(x0.length:Int))))) else (some x6)
def spec_l1End.j1:Nat→List (S63)→Int→Int→Bool→Option (Int)
 | 0,_,_,_,_=>none
 | k+1,x0,x5,x6,x17=>if x17=true then (some (-1)) else (if 0≤x6 then (if x6<(x0.length:Int) then (if ((rd_T63 x0 x6).f0)=3 then (spec_l1End.l0 k x0 (wrap64 ((wrap64 (x5 - 1))+((rd_T63 x0 x6).f1))) (wrap64 (x6+1))) else (spec_l1End.l0 k x0 (wrap64 (x5 - 1)) (wrap64 (x6+1)))) else (none)) else (none))
end
def spec_l1End.f (k:Nat) (l0:List (S63)) (a1:Int):Option (Int):=spec_l1End.l0 k l0 1 a1
set_option maxHeartbeats 8000000 in
set_option maxRecDepth 100000 in
theorem spec_l1End.calls (k:Nat) (A0:Option Addr) (c0:Nat) (l0:List (S63)) (a1:Int) (r:Int) (w:World) (hr0:Kd.C k63 w A0 l0.length l0) (hc0:l0.length≤c0) (h:spec_l1End.f k l0 a1=some r) :
  Calls Tryz.prog 90 #[.slice A0 l0.length c0,.int .i64 a1] w fun e w'=>e = .returned (.int .i64 r)∧Drawn0 w w':=by
 have HR0:=Aside0.mk hr0
 have HC0:=Aside0.mk hc0
 clear hr0 hc0
 have H:(spec_l1End.l0 k l0 1 a1)=some r:=h
 clear h
 have H':=Aside0.mk H
 clear H
 go_enter Tryz.func90,Tryz.ntmps90
 go_wp2
 go_loopg [5,6] k (fun kq v5 v6 w'=>∃ (x5_1:Int) (x6_1:Int),v5 = .int .i64 x5_1∧v6 = .int .i64 x6_1∧Aside0 (spec_l1End.l0 kq l0 x5_1 x6_1=some r)∧Aside0 (kq≤k)∧Drawn0 w w')
 case atStart=>exact ⟨(1),(a1),qz9,qz9,H',⟨Nat.le_refl _⟩,qz33⟩
 case round=>
  clear H'
  try clear p2
  obtain ⟨x5_1,x6_1,rfl,rfl,HA,HK1,⟨m1,rfl⟩⟩:=hrel
  cases gk with
  | zero=>exact absurd HA.out (by simp [spec_l1End.l0])
  | succ k1=>
   have H:=HA.out
   clear HA
   simp only [spec_l1End.l0] at H
   by_cases c3:x5_1 > 0
   ·rw [if_pos c3] at H
    have c3b0:decide (0<x5_1)=true:=decide_eq_true c3
    clear c3
    have HC4:=Aside0.mk H
    clear H
    go_upto_region 4 with (fail)
    go_cut [17] (fun v17 wc=>∃ (kq:Nat) (x17_3:Bool),v17 = .bool x17_3∧Aside0 (spec_l1End.j1 kq l0 x5_1 x6_1 x17_3=some r)∧Aside0 (kq≤k1)∧Drawn0 w wc)
    case first=>
     have H:=HC4.out
     clear HC4
     by_cases c5:x6_1<0
     ·rw [if_pos c5] at H
      have c5b0:decide (x6_1<0)=true:=decide_eq_true c5
      clear c5
      (first|rw [c5b0]|rw [c5b1]|(simp only [i64_w,i32_w];rw [c5b0])|skip)
      have H':=Aside0.mk H
      clear H
      go_wp2
      go_meet
      case rel=>exact ⟨_,(true),qz9,H',⟨qz125⟩,qz33⟩
     ·rw [if_neg c5] at H
      have c5b0:decide (x6_1<0)=false:=decide_eq_false c5
      clear c5
      (first|rw [c5b0]|rw [c5b1]|(simp only [i64_w,i32_w];rw [c5b0])|skip)
      have H':=Aside0.mk H
      clear H
      go_wp2
      go_meet
      case rel=>exact ⟨_,(decide (x6_1≥(l0.length:Int))),qz9,H',⟨qz125⟩,qz33⟩
    case rest=>
     clear HC4
     try clear p2
     try clear c3
     try clear c3b0
     try clear c5
     try clear c5b0
     try clear p2
     obtain ⟨kq,x17_3,rfl,HA,HJ3,⟨mc3,rfl⟩⟩:=hcut
     cases kq with
     | zero=>exact absurd HA.out (by simp [spec_l1End.j1])
     | succ kj3=>
      have H:=HA.out
      clear HA
      simp only [spec_l1End.j1] at H
      by_cases c6:x17_3=true
      ·subst c6
       have H1:(some (-1))=some r:=qz57
       clear H
       have H:=H1
       clear H1
       obtain rfl:=Option.some.inj H
       go_wp2
       go_ret
       exact ⟨qz9,qz33⟩
      ·replace c6:=Bool.eq_false_iff.mpr c6
       subst c6
       have H1:(if 0≤x6_1 then (if x6_1<(l0.length:Int) then (if ((rd_T63 l0 x6_1).f0)=3 then (spec_l1End.l0 kj3 l0 (wrap64 ((wrap64 (x5_1 - 1))+((rd_T63 l0 x6_1).f1))) (wrap64 (x6_1+1))) else (spec_l1End.l0 kj3 l0 (wrap64 (x5_1 - 1)) (wrap64 (x6_1+1)))) else (none)) else (none))=some r:=qz23
       clear H
       have H:=H1
       clear H1
       by_cases c7:0≤x6_1
       ·rw [if_pos c7] at H
        have c7b0:decide (0≤x6_1)=true:=decide_eq_true c7
        clear c7
        by_cases c8:x6_1<(l0.length:Int)
        ·rw [if_pos c8] at H
         have c8b0:decide (x6_1<(l0.length:Int))=true:=decide_eq_true c8
         clear c8
         by_cases c9:((rd_T63 l0 x6_1).f0)=3
         ·rw [if_pos c9] at H
          have c9b0:(((rd_T63 l0 x6_1).f0) == 3)=true:=beq_iff_eq.mpr c9
          have c9b1:(((rd_T63 l0 x6_1).f0) != 3)=false:=bne_eq_false_iff_eq.mpr c9
          clear c9
          have H':=Aside0.mk H
          clear H
          have p106:0≤(x6_1:Int):=of_decide_eq_true qz5
          have q106:x6_1<(l0.length:Int):=of_decide_eq_true qz5
          obtain ⟨ad106,e106,hx106_0,hx106_1,hx106_2⟩:=at_T63 HR0.out x6_1 p106 q106
          cases e106
          replace p106:=eq_true p106
          replace q106:=eq_true q106
          have p107:0≤(x6_1:Int):=of_decide_eq_true qz5
          have q107:x6_1<(l0.length:Int):=of_decide_eq_true qz5
          obtain ⟨ad107,e107,hx107_0,hx107_1,hx107_2⟩:=at_T63 HR0.out x6_1 p107 q107
          obtain rfl:ad106=ad107:=(by injection e107)
          replace p107:=eq_true p107
          replace q107:=eq_true q107
          go_wp2
          go_roundg kj3
          case measure=>have:=HK1.out;have:=HJ3.out;omega
          case rel=>exact ⟨(wrap64 ((wrap64 (x5_1 - 1))+((rd_T63 l0 x6_1).f1))),(wrap64 (x6_1+1)),qz9,qz9,H',⟨by have:=HK1.out;have:=HJ3.out;omega⟩,qz33⟩
         ·rw [if_neg c9] at H
          have c9b0:(((rd_T63 l0 x6_1).f0) == 3)=false:=beq_eq_false_iff_ne.mpr c9
          have c9b1:(((rd_T63 l0 x6_1).f0) != 3)=true:=bne_iff_ne.mpr c9
          have H':=Aside0.mk H
          clear H
          have p106:0≤(x6_1:Int):=of_decide_eq_true qz5
          have q106:x6_1<(l0.length:Int):=of_decide_eq_true qz5
          obtain ⟨ad106,e106,hx106_0,hx106_1,hx106_2⟩:=at_T63 HR0.out x6_1 p106 q106
          cases e106
          replace p106:=eq_true p106
          replace q106:=eq_true q106
          go_wp2
          go_roundg kj3
          case measure=>have:=HK1.out;have:=HJ3.out;omega
          case rel=>exact ⟨(wrap64 (x5_1 - 1)),(wrap64 (x6_1+1)),qz9,qz9,H',⟨by have:=HK1.out;have:=HJ3.out;omega⟩,qz33⟩
        ·rw [if_neg c8] at H
         exact absurd H (by simp)
       ·rw [if_neg c7] at H
        exact absurd H (by simp)
   ·rw [if_neg c3] at H
    have c3b0:decide (0<x5_1)=false:=decide_eq_false c3
    clear c3
    obtain rfl:=Option.some.inj H
    go_wp2
    go_ret
    exact ⟨qz9,qz33⟩

end Go.Proofs.YtlhniagacegbeaaGreatDoor.P
