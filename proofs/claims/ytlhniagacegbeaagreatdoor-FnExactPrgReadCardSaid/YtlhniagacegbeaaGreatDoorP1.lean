/- Contracts of functions of the program: each as a Lean function, and that its call does what that says; printed by cprint.py (this session) over print.py of the kit. Conditions: the hypotheses of each theorem. -/
import Derived.Test.YtlhniagacegbeaaGreatDoorVZ
import Derived.Test.YtlhniagacegbeaaGreatDoorP0
namespace Go.Proofs.YtlhniagacegbeaaGreatDoor.P
open Go.RowKit Go.Proofs.YtlhniagacegbeaaGreatDoorW.PrintWords Go.Proofs.YtlhniagacegbeaaGreatDoorW.PrintLast Go.Proofs.YtlhniagacegbeaaGreatDoorW.PrintMore
attribute [local go_sem] max2_int min2_int max_two min_two max_three min_three max_four min_four   -- for this text's walks alone
set_option linter.unusedVariables false
set_option linter.unusedSimpArgs false

/-! ### spec_l1In: function 109 -/
def spec_l1In.f (a0:Int) (a1:Int) (a2:Int):Option (Bool):=if a0≥a1 then (some (decide (a0≤a2))) else (some false)
set_option maxHeartbeats 8000000 in
set_option maxRecDepth 100000 in
theorem spec_l1In.calls (a0:Int) (a1:Int) (a2:Int) (r:Bool) (w:World) (h:spec_l1In.f a0 a1 a2=some r) :
  Calls Tryz.prog 109 #[.int .i64 a0,.int .i64 a1,.int .i64 a2] w fun e w'=>e = .returned (.bool r)∧Drawn0 w w':=by
 have H:(if a0≥a1 then (some (decide (a0≤a2))) else (some false))=some r:=h;clear h;by_cases c4:a0≥a1
 ·rw [if_pos c4] at H
  have c4b0:decide (a1≤a0)=true:=decide_eq_true c4;clear c4;obtain rfl:=Option.some.inj H;go_enter Tryz.func109,Tryz.ntmps109;go_wp2;go_ret;exact ⟨qz5,qz20⟩
 ·rw [if_neg c4] at H
  have c4b0:decide (a1≤a0)=false:=decide_eq_false c4;clear c4;obtain rfl:=Option.some.inj H;go_enter Tryz.func109,Tryz.ntmps109;go_wp2;go_ret;exact ⟨qz5,qz20⟩

/-! ### spec_l1Name: function 110 -/
mutual
def spec_l1Name.j0:Nat→ByteArray→Bool→Option (Bool)
 | 0,_,_=>none
 | k+1,x0,x15=>if x15=true then (some false) else (spec_l1Name.l0 k x0 0)
def spec_l1Name.l0:Nat→ByteArray→Int→Option (Bool)
 | 0,_,_=>none
 | k+1,x0,x3=>if x3<(x0.size:Int) then (if 0≤x3 then (if (bt x0 x3)<97 then (some false) else (if (bt x0 x3) > 122 then (some false) else (spec_l1Name.l0 k x0 (wrap64 (x3+1))))) else (none)) else (some true)
end
def spec_l1Name.f (k:Nat) (a0:ByteArray):Option (Bool):=if (a0.size:Int)=0 then (spec_l1Name.j0 k a0 true) else (if (a0.size:Int) > 8 then (spec_l1Name.j0 k a0 true) else (spec_l1Name.j0 k a0 (a0.toList == ([97,110,100]:List UInt8))))
set_option maxHeartbeats 8000000 in
set_option maxRecDepth 100000 in
theorem spec_l1Name.calls (k:Nat) (a0:ByteArray) (r:Bool) (w:World) (h:spec_l1Name.f k a0=some r) :
  Calls Tryz.prog 110 #[.string a0] w fun e w'=>e = .returned (.bool r)∧Drawn0 w w':=by
 have H:(if (a0.size:Int)=0 then (spec_l1Name.j0 k a0 true) else (if (a0.size:Int) > 8 then (spec_l1Name.j0 k a0 true) else (spec_l1Name.j0 k a0 (a0.toList == ([97,110,100]:List UInt8)))))=some r:=h;clear h;have HC2:=Aside0.mk H;clear H;go_enter Tryz.func110,Tryz.ntmps110;go_upto_region 1 with (fail)
 go_cut [15] (fun v15 wc=>∃ (kq:Nat) (x15_1:Bool),v15 = .bool x15_1∧Aside0 (spec_l1Name.j0 kq a0 x15_1=some r)∧Aside0 (kq≤k)∧Drawn0 w wc)
 case first=>
  have H:=HC2.out;clear HC2;by_cases c3:(a0.size:Int)=0
  ·rw [if_pos c3] at H
   have c3b0:((a0.size:Int) == 0)=true:=beq_iff_eq.mpr c3;have c3b1:((a0.size:Int) != 0)=false:=bne_eq_false_iff_eq.mpr c3;clear c3;(first|rw [c3b0]|rw [c3b1]|(simp only [i64_w,i32_w];rw [c3b0])|skip);have H':=Aside0.mk H;clear H;go_wp2;go_meet
   case rel=>exact ⟨_,(true),qz5,H',⟨qz44⟩,qz20⟩
  ·rw [if_neg c3] at H
   have c3b0:((a0.size:Int) == 0)=false:=beq_eq_false_iff_ne.mpr c3;have c3b1:((a0.size:Int) != 0)=true:=bne_iff_ne.mpr c3;(first|rw [c3b0]|rw [c3b1]|(simp only [i64_w,i32_w];rw [c3b0])|skip);by_cases c4:(a0.size:Int) > 8
   ·rw [if_pos c4] at H
    have c4b0:decide (8<(a0.size:Int))=true:=decide_eq_true c4;have c4b1:decide (8<a0.size)=true:=decide_eq_true (by omega);clear c4;have H':=Aside0.mk H;clear H;go_wp2;go_meet
    case rel=>exact ⟨_,(true),qz5,H',⟨qz44⟩,qz20⟩
   ·rw [if_neg c4] at H
    have c4b0:decide (8<(a0.size:Int))=false:=decide_eq_false c4;have c4b1:decide (8<a0.size)=false:=decide_eq_false (by omega);clear c4;have H':=Aside0.mk H;clear H;go_wp2;go_meet
    case rel=>exact ⟨_,((a0.toList == ([97,110,100]:List UInt8))),qz5,H',⟨qz44⟩,qz20⟩
 case rest=>
  clear HC2;obtain ⟨kq,x15_1,rfl,HA,HJ1,⟨mc1,rfl⟩⟩:=hcut;cases kq with
  | zero=>exact absurd HA.out (by simp [spec_l1Name.j0])
  | succ kj1=>
   have H:=HA.out;clear HA;simp only [spec_l1Name.j0] at H;by_cases c5:x15_1=true
   ·subst c5
    have H1:(some false)=some r:=qz26;clear H;have H:=H1;clear H1;obtain rfl:=Option.some.inj H;go_wp2;go_ret;exact ⟨qz5,qz20⟩
   ·replace c5:=Bool.eq_false_iff.mpr c5
    subst c5;have H1:(spec_l1Name.l0 kj1 a0 0)=some r:=qz15;clear H;have H:=H1;clear H1;have H':=Aside0.mk H;clear H;go_wp2
    go_loopg [3] kj1 (fun kq v3 w'=>∃ (x3_2:Int),v3 = .int .i64 x3_2∧Aside0 (spec_l1Name.l0 kq a0 x3_2=some r)∧Aside0 (kq≤kj1)∧Drawn0 w w')
    case atStart=>exact ⟨(0),qz5,H',⟨Nat.le_refl _⟩,qz20⟩
    case round=>
     clear H';(try clear c5);obtain ⟨x3_2,rfl,HA,HK2,⟨m2,rfl⟩⟩:=hrel;cases gk with
     | zero=>exact absurd HA.out (by simp [spec_l1Name.l0])
     | succ k2=>
      have H:=HA.out;clear HA;simp only [spec_l1Name.l0] at H;by_cases c6:x3_2<(a0.size:Int)
      ·rw [if_pos c6] at H
       have c6b0:decide (x3_2<(a0.size:Int))=true:=decide_eq_true c6;clear c6;by_cases c7:0≤x3_2
       ·rw [if_pos c7] at H
        have c7b0:decide (0≤x3_2)=true:=decide_eq_true c7;clear c7;by_cases c9:(bt a0 x3_2)<97
        ·rw [if_pos c9] at H
         have c9b0:decide ((bt a0 x3_2)<97)=true:=decide_eq_true c9;clear c9;obtain rfl:=Option.some.inj H;have p8:0≤(x3_2:Int):=of_decide_eq_true qz4;have q8:x3_2<(a0.size:Int):=of_decide_eq_true qz4;have hx8:=bt_at a0 x3_2;replace p8:=eq_true p8;replace q8:=eq_true q8;go_wp2;go_ret;exact ⟨qz5,qz20⟩
        ·rw [if_neg c9] at H
         have c9b0:decide ((bt a0 x3_2)<97)=false:=decide_eq_false c9;clear c9;by_cases c11:(bt a0 x3_2) > 122
         ·rw [if_pos c11] at H
          have c11b0:decide (122<(bt a0 x3_2))=true:=decide_eq_true c11;clear c11;obtain rfl:=Option.some.inj H;have p8:0≤(x3_2:Int):=of_decide_eq_true qz4;have q8:x3_2<(a0.size:Int):=of_decide_eq_true qz4;have hx8:=bt_at a0 x3_2;replace p8:=eq_true p8;replace q8:=eq_true q8;have p10:0≤(x3_2:Int):=of_decide_eq_true qz4;have q10:x3_2<(a0.size:Int):=of_decide_eq_true qz4;have hx10:=bt_at a0 x3_2;replace p10:=eq_true p10;replace q10:=eq_true q10;go_wp2;go_ret;exact ⟨qz5,qz20⟩
         ·rw [if_neg c11] at H
          have c11b0:decide (122<(bt a0 x3_2))=false:=decide_eq_false c11;clear c11;have H':=Aside0.mk H;clear H;have p8:0≤(x3_2:Int):=of_decide_eq_true qz4;have q8:x3_2<(a0.size:Int):=of_decide_eq_true qz4;have hx8:=bt_at a0 x3_2;replace p8:=eq_true p8;replace q8:=eq_true q8;have p10:0≤(x3_2:Int):=of_decide_eq_true qz4;have q10:x3_2<(a0.size:Int):=of_decide_eq_true qz4;have hx10:=bt_at a0 x3_2;replace p10:=eq_true p10;replace q10:=eq_true q10;go_wp2;go_roundg k2
          case measure=>have:=HJ1.out;have:=HK2.out;omega
          case rel=>exact ⟨(wrap64 (x3_2+1)),qz5,H',⟨qz59⟩,qz20⟩
       ·rw [if_neg c7] at H
        exact absurd H (by simp)
      ·rw [if_neg c6] at H
       have c6b0:decide (x3_2<(a0.size:Int))=false:=decide_eq_false c6;clear c6;obtain rfl:=Option.some.inj H;go_wp2;go_ret;exact ⟨qz5,qz20⟩

/-! ### spec_l1Cell: function 89 -/
def spec_l1Cell.f (k:Nat) (a0_0:Int) (a0_1:Int) (a0_2:ByteArray):Option (Bool):=if a0_0=1 then ((spec_l1In.f a0_1 0 99999).bind fun t102=>(if t102=true then (some (a0_2.toList == ([]:List UInt8))) else (some false))) else (if a0_0=2 then ((spec_l1In.f a0_1 (-9999) 9999).bind fun t103=>(if t103=true then (some (a0_2.toList == ([]:List UInt8))) else (some false))) else (if a0_0=3 then ((spec_l1In.f a0_1 0 3).bind fun t104=>(if t104=true then ((spec_l1Name.f k a0_2).bind fun t105=>(some t105)) else (some false))) else (some false)))
set_option maxHeartbeats 8000000 in
set_option maxRecDepth 100000 in
theorem spec_l1Cell.calls (k:Nat) (a0_0:Int) (a0_1:Int) (a0_2:ByteArray) (r:Bool) (w:World) (h:spec_l1Cell.f k a0_0 a0_1 a0_2=some r) :
  Calls Tryz.prog 89 #[.agg #[.int .i64 a0_0,.int .i64 a0_1,.string a0_2]] w fun e w'=>e = .returned (.bool r)∧Below w.heap.size w w':=by
 have hu63:=Tryz.underlying63;have HB:=Aside0.mk (Below.refl w.heap.size w);have H:(if a0_0=1 then ((spec_l1In.f a0_1 0 99999).bind fun t102=>(if t102=true then (some (a0_2.toList == ([]:List UInt8))) else (some false))) else (if a0_0=2 then ((spec_l1In.f a0_1 (-9999) 9999).bind fun t103=>(if t103=true then (some (a0_2.toList == ([]:List UInt8))) else (some false))) else (if a0_0=3 then ((spec_l1In.f a0_1 0 3).bind fun t104=>(if t104=true then ((spec_l1Name.f k a0_2).bind fun t105=>(some t105)) else (some false))) else (some false))))=some r:=h;clear h;have HC2:=Aside0.mk H;clear H;go_enter Tryz.func89,Tryz.ntmps89;go_upto_if 5 with (first|((with_reducible refine gate_dst (N:=1) rfl ?_);refine box_event ?hg (N:=1) ?hd (cs:=#[.int .i64 a0_0,.int .i64 a0_1,.string a0_2]) (t:=63) ?hr ?_;(case hd=>rfl);(case hg=>rfl);(case hr=>first|(go_simp;done)|(go_simp;rfl));intro gb101 hg w3 hbox hb;have n_:=as3 (below_step qz3 hb) (hbox) ((by rw [hg];exact (below_size qz3):w.heap.size≤gb101));clear HB;obtain ⟨HB,BK101,GE101⟩:=n_;clear hb hbox hg;obtain ⟨hcz4_0,hcz4_1,hcz4_2,hfz4_0,hfz4_1,hfz4_2⟩:=blk3 BK101.out))
 (try simp only [Act.put,sA_,sZ_,sS_]);have H:=HC2.out;clear HC2;by_cases c5:a0_0=1
 ·rw [if_pos c5] at H
  have c5b0:(a0_0 == 1)=true:=beq_iff_eq.mpr c5;have c5b1:(a0_0 != 1)=false:=bne_eq_false_iff_eq.mpr c5;clear c5;(first|rw [c5b0]|rw [c5b1]|(simp only [i64_w,i32_w];rw [c5b0])|skip);replace H:=Option.bind_eq_some_iff.mp H;obtain ⟨t102,A60,H⟩:=H;(try dsimp only at H);have A6:=Aside0.mk A60;clear A60;by_cases c7:t102=true
  ·subst c7
   have H1:(some (a0_2.toList == ([]:List UInt8)))=some r:=qz26;clear H;have H:=H1;clear H1;obtain rfl:=Option.some.inj H;obtain ⟨hcz8_0,hcz8_1,hcz8_2,hfz8_0,hfz8_1,hfz8_2⟩:=blk3 BK101.out
   go_wp2_with (first|(go_at_call 109;(with_reducible refine (spec_l1In.calls a0_1 0 99999 true _ A6.out).mono ?_);rintro e w' ⟨rfl,⟨nd,rfl⟩⟩))
   go_ret;exact ⟨qz2,qz33⟩
  ·replace c7:=Bool.eq_false_iff.mpr c7
   subst c7;have H1:(some false)=some r:=qz15;clear H;have H:=H1;clear H1;obtain rfl:=Option.some.inj H;obtain ⟨hcz9_0,hcz9_1,hcz9_2,hfz9_0,hfz9_1,hfz9_2⟩:=blk3 BK101.out
   go_wp2_with (first|(go_at_call 109;(with_reducible refine (spec_l1In.calls a0_1 0 99999 false _ A6.out).mono ?_);rintro e w' ⟨rfl,⟨nd,rfl⟩⟩))
   go_ret;exact ⟨qz2,qz33⟩
 ·rw [if_neg c5] at H
  have c5b0:(a0_0 == 1)=false:=beq_eq_false_iff_ne.mpr c5;have c5b1:(a0_0 != 1)=true:=bne_iff_ne.mpr c5;(first|rw [c5b0]|rw [c5b1]|(simp only [i64_w,i32_w];rw [c5b0])|skip);by_cases c10:a0_0=2
  ·rw [if_pos c10] at H
   have c10b0:(a0_0 == 2)=true:=beq_iff_eq.mpr c10;have c10b1:(a0_0 != 2)=false:=bne_eq_false_iff_eq.mpr c10;clear c10;replace H:=Option.bind_eq_some_iff.mp H;obtain ⟨t103,A110,H⟩:=H;(try dsimp only at H);have A11:=Aside0.mk A110;clear A110;by_cases c12:t103=true
   ·subst c12
    have H1:(some (a0_2.toList == ([]:List UInt8)))=some r:=qz26;clear H;have H:=H1;clear H1;obtain rfl:=Option.some.inj H;obtain ⟨hcz13_0,hcz13_1,hcz13_2,hfz13_0,hfz13_1,hfz13_2⟩:=blk3 BK101.out
    go_wp2_with (first|(go_at_call 109;(with_reducible refine (spec_l1In.calls a0_1 (-9999) 9999 true _ A11.out).mono ?_);rintro e w' ⟨rfl,⟨nd,rfl⟩⟩))
    go_ret;exact ⟨qz2,qz33⟩
   ·replace c12:=Bool.eq_false_iff.mpr c12
    subst c12;have H1:(some false)=some r:=qz15;clear H;have H:=H1;clear H1;obtain rfl:=Option.some.inj H;obtain ⟨hcz14_0,hcz14_1,hcz14_2,hfz14_0,hfz14_1,hfz14_2⟩:=blk3 BK101.out
    go_wp2_with (first|(go_at_call 109;(with_reducible refine (spec_l1In.calls a0_1 (-9999) 9999 false _ A11.out).mono ?_);rintro e w' ⟨rfl,⟨nd,rfl⟩⟩))
    go_ret;exact ⟨qz2,qz33⟩
  ·rw [if_neg c10] at H
   have c10b0:(a0_0 == 2)=false:=beq_eq_false_iff_ne.mpr c10;have c10b1:(a0_0 != 2)=true:=bne_iff_ne.mpr c10;by_cases c15:a0_0=3
   ·rw [if_pos c15] at H
    have c15b0:(a0_0 == 3)=true:=beq_iff_eq.mpr c15;have c15b1:(a0_0 != 3)=false:=bne_eq_false_iff_eq.mpr c15;clear c15;replace H:=Option.bind_eq_some_iff.mp H;obtain ⟨t104,A160,H⟩:=H;(try dsimp only at H);have A16:=Aside0.mk A160;clear A160;by_cases c17:t104=true
    ·subst c17
     have H1:((spec_l1Name.f k a0_2).bind fun t105=>(some t105))=some r:=qz26;clear H;have H:=H1;clear H1;replace H:=Option.bind_eq_some_iff.mp H;obtain ⟨t105,A180,H⟩:=H;(try dsimp only at H);have A18:=Aside0.mk A180;clear A180;obtain rfl:=Option.some.inj H;obtain ⟨hcz19_0,hcz19_1,hcz19_2,hfz19_0,hfz19_1,hfz19_2⟩:=blk3 BK101.out
     go_wp2_with (first|(go_at_call 109;(with_reducible refine (spec_l1In.calls a0_1 0 3 true _ A16.out).mono ?_);rintro e w' ⟨rfl,⟨nd,rfl⟩⟩)|(go_at_call 110;(with_reducible refine (spec_l1Name.calls k a0_2 t105 _ A18.out).mono ?_);rintro e w' ⟨rfl,⟨nd,rfl⟩⟩))
     go_ret;exact ⟨qz2,qz33⟩
    ·replace c17:=Bool.eq_false_iff.mpr c17
     subst c17;have H1:(some false)=some r:=qz15;clear H;have H:=H1;clear H1;obtain rfl:=Option.some.inj H;obtain ⟨hcz20_0,hcz20_1,hcz20_2,hfz20_0,hfz20_1,hfz20_2⟩:=blk3 BK101.out
     go_wp2_with (first|(go_at_call 109;(with_reducible refine (spec_l1In.calls a0_1 0 3 false _ A16.out).mono ?_);rintro e w' ⟨rfl,⟨nd,rfl⟩⟩))
     go_ret;exact ⟨qz2,qz33⟩
   ·rw [if_neg c15] at H
    have c15b0:(a0_0 == 3)=false:=beq_eq_false_iff_ne.mpr c15;have c15b1:(a0_0 != 3)=true:=bne_iff_ne.mpr c15;obtain rfl:=Option.some.inj H;go_wp2;go_ret;exact ⟨qz2,qz33⟩

/-! ### spec_l1End: function 90 -/
mutual
def spec_l1End.l0:Nat→List (S63)→Int→Int→Option (Int)
 | 0,_,_,_=>none
 | k+1,x0,x5,x6=>if x5 > 0 then (if x6<0 then (spec_l1End.j1 k x0 x5 x6 true) else (spec_l1End.j1 k x0 x5 x6 (decide (x6≥(x0.length:Int))))) else (some x6)
def spec_l1End.j1:Nat→List (S63)→Int→Int→Bool→Option (Int)
 | 0,_,_,_,_=>none
 | k+1,x0,x5,x6,x17=>if x17=true then (some (-1)) else (if 0≤x6 then (if x6<(x0.length:Int) then (if ((rd_T63 x0 x6).f0)=3 then (spec_l1End.l0 k x0 (wrap64 ((wrap64 (x5 - 1))+((rd_T63 x0 x6).f1))) (wrap64 (x6+1))) else (spec_l1End.l0 k x0 (wrap64 (x5 - 1)) (wrap64 (x6+1)))) else (none)) else (none))
end
def spec_l1End.f (k:Nat) (l0:List (S63)) (a1:Int):Option (Int):=spec_l1End.l0 k l0 1 a1
set_option maxHeartbeats 8000000 in
set_option maxRecDepth 100000 in
theorem spec_l1End.calls (k:Nat) (A0:Option Addr) (c0:Nat) (l0:List (S63)) (a1:Int) (r:Int) (w:World) (hr0:Kd.C k63 w A0 l0.length l0) (hc0:l0.length≤c0) (h:spec_l1End.f k l0 a1=some r) :
  Calls Tryz.prog 90 #[.slice A0 l0.length c0,.int .i64 a1] w fun e w'=>e = .returned (.int .i64 r)∧Drawn0 w w':=by
 have HR0:=Aside0.mk hr0;have HC0:=Aside0.mk hc0;clear hr0 hc0;have H:(spec_l1End.l0 k l0 1 a1)=some r:=h;clear h;have H':=Aside0.mk H;clear H;go_enter Tryz.func90,Tryz.ntmps90;go_wp2
 go_loopg [5,6] k (fun kq v5 v6 w'=>∃ (x5_1:Int) (x6_1:Int),v5 = .int .i64 x5_1∧v6 = .int .i64 x6_1∧Aside0 (spec_l1End.l0 kq l0 x5_1 x6_1=some r)∧Aside0 (kq≤k)∧Drawn0 w w')
 case atStart=>exact ⟨(1),(a1),qz5,qz5,H',⟨Nat.le_refl _⟩,qz20⟩
 case round=>
  clear H';obtain ⟨x5_1,x6_1,rfl,rfl,HA,HK1,⟨m1,rfl⟩⟩:=hrel;cases gk with
  | zero=>exact absurd HA.out (by simp [spec_l1End.l0])
  | succ k1=>
   have H:=HA.out;clear HA;simp only [spec_l1End.l0] at H;by_cases c3:x5_1 > 0
   ·rw [if_pos c3] at H
    have c3b0:decide (0<x5_1)=true:=decide_eq_true c3;clear c3;have HC4:=Aside0.mk H;clear H;go_upto_region 4 with (fail)
    go_cut [17] (fun v17 wc=>∃ (kq:Nat) (x17_3:Bool),v17 = .bool x17_3∧Aside0 (spec_l1End.j1 kq l0 x5_1 x6_1 x17_3=some r)∧Aside0 (kq≤k1)∧Drawn0 w wc)
    case first=>
     have H:=HC4.out;clear HC4;by_cases c5:x6_1<0
     ·rw [if_pos c5] at H
      have c5b0:decide (x6_1<0)=true:=decide_eq_true c5;clear c5;(first|rw [c5b0]|rw [c5b1]|(simp only [i64_w,i32_w];rw [c5b0])|skip);have H':=Aside0.mk H;clear H;go_wp2;go_meet
      case rel=>exact ⟨_,(true),qz5,H',⟨qz45⟩,qz20⟩
     ·rw [if_neg c5] at H
      have c5b0:decide (x6_1<0)=false:=decide_eq_false c5;clear c5;(first|rw [c5b0]|rw [c5b1]|(simp only [i64_w,i32_w];rw [c5b0])|skip);have H':=Aside0.mk H;clear H;go_wp2;go_meet
      case rel=>exact ⟨_,(decide (x6_1≥(l0.length:Int))),qz5,H',⟨qz45⟩,qz20⟩
    case rest=>
     clear HC4;(try clear c3);(try clear c3b0);obtain ⟨kq,x17_3,rfl,HA,HJ3,⟨mc3,rfl⟩⟩:=hcut;cases kq with
     | zero=>exact absurd HA.out (by simp [spec_l1End.j1])
     | succ kj3=>
      have H:=HA.out;clear HA;simp only [spec_l1End.j1] at H;by_cases c6:x17_3=true
      ·subst c6
       have H1:(some (-1))=some r:=qz26;clear H;have H:=H1;clear H1;obtain rfl:=Option.some.inj H;go_wp2;go_ret;exact ⟨qz5,qz20⟩
      ·replace c6:=Bool.eq_false_iff.mpr c6
       subst c6;have H1:(if 0≤x6_1 then (if x6_1<(l0.length:Int) then (if ((rd_T63 l0 x6_1).f0)=3 then (spec_l1End.l0 kj3 l0 (wrap64 ((wrap64 (x5_1 - 1))+((rd_T63 l0 x6_1).f1))) (wrap64 (x6_1+1))) else (spec_l1End.l0 kj3 l0 (wrap64 (x5_1 - 1)) (wrap64 (x6_1+1)))) else (none)) else (none))=some r:=qz15;clear H;have H:=H1;clear H1;by_cases c7:0≤x6_1
       ·rw [if_pos c7] at H
        have c7b0:decide (0≤x6_1)=true:=decide_eq_true c7;clear c7;by_cases c8:x6_1<(l0.length:Int)
        ·rw [if_pos c8] at H
         have c8b0:decide (x6_1<(l0.length:Int))=true:=decide_eq_true c8;clear c8;by_cases c9:((rd_T63 l0 x6_1).f0)=3
         ·rw [if_pos c9] at H
          have c9b0:(((rd_T63 l0 x6_1).f0) == 3)=true:=beq_iff_eq.mpr c9;have c9b1:(((rd_T63 l0 x6_1).f0) != 3)=false:=bne_eq_false_iff_eq.mpr c9;clear c9;have H':=Aside0.mk H;clear H;have p106:0≤(x6_1:Int):=of_decide_eq_true qz4;have q106:x6_1<(l0.length:Int):=of_decide_eq_true qz4;obtain ⟨ad106,e106,hx106_0,hx106_1,hx106_2⟩:=at_T63 HR0.out x6_1 p106 q106;cases e106
          replace p106:=eq_true p106;replace q106:=eq_true q106;have p107:0≤(x6_1:Int):=of_decide_eq_true qz4;have q107:x6_1<(l0.length:Int):=of_decide_eq_true qz4;obtain ⟨ad107,e107,hx107_0,hx107_1,hx107_2⟩:=at_T63 HR0.out x6_1 p107 q107;obtain rfl:ad106=ad107:=(by injection e107);replace p107:=eq_true p107;replace q107:=eq_true q107;go_wp2;go_roundg kj3
          case measure=>have:=HK1.out;have:=HJ3.out;omega
          case rel=>exact ⟨(wrap64 ((wrap64 (x5_1 - 1))+((rd_T63 l0 x6_1).f1))),(wrap64 (x6_1+1)),qz5,qz5,H',⟨by have:=HK1.out;have:=HJ3.out;omega⟩,qz20⟩
         ·rw [if_neg c9] at H
          have c9b0:(((rd_T63 l0 x6_1).f0) == 3)=false:=beq_eq_false_iff_ne.mpr c9;have c9b1:(((rd_T63 l0 x6_1).f0) != 3)=true:=bne_iff_ne.mpr c9;have H':=Aside0.mk H;clear H;have p106:0≤(x6_1:Int):=of_decide_eq_true qz4;have q106:x6_1<(l0.length:Int):=of_decide_eq_true qz4;obtain ⟨ad106,e106,hx106_0,hx106_1,hx106_2⟩:=at_T63 HR0.out x6_1 p106 q106;cases e106
          replace p106:=eq_true p106;replace q106:=eq_true q106;go_wp2;go_roundg kj3
          case measure=>have:=HK1.out;have:=HJ3.out;omega
          case rel=>exact ⟨(wrap64 (x5_1 - 1)),(wrap64 (x6_1+1)),qz5,qz5,H',⟨by have:=HK1.out;have:=HJ3.out;omega⟩,qz20⟩
        ·rw [if_neg c8] at H
         exact absurd H (by simp)
       ·rw [if_neg c7] at H
        exact absurd H (by simp)
   ·rw [if_neg c3] at H
    have c3b0:decide (0<x5_1)=false:=decide_eq_false c3;clear c3;obtain rfl:=Option.some.inj H;go_wp2;go_ret;exact ⟨qz5,qz20⟩

/-! ### spec_TrmOk: function 62 -/
mutual
def spec_TrmOk.j0:Nat→List (S63)→Bool→Option (Bool)
 | 0,_,_=>none
 | k+1,x0,x11=>if x11=true then (some false) else (spec_TrmOk.l0 k x0 0)
def spec_TrmOk.l0:Nat→List (S63)→Int→Option (Bool)
 | 0,_,_=>none
 | k+1,x0,x3=>if x3<(x0.length:Int) then (if 0≤x3 then ((spec_l1Cell.f k ((rd_T63 x0 x3).f0) ((rd_T63 x0 x3).f1) ((rd_T63 x0 x3).f2)).bind fun t110=>(if t110=true then (spec_TrmOk.l0 k x0 (wrap64 (x3+1))) else (some false))) else (none)) else ((spec_l1End.f k x0 0).bind fun t108=>(some (t108 == (x0.length:Int))))
end
def spec_TrmOk.f (k:Nat) (l0:List (S63)):Option (Bool):=if (l0.length:Int)=0 then (spec_TrmOk.j0 k l0 true) else (spec_TrmOk.j0 k l0 (decide ((l0.length:Int) > 40)))
set_option maxHeartbeats 8000000 in
set_option maxRecDepth 100000 in
theorem spec_TrmOk.calls (k:Nat) (A0:Option Addr) (c0:Nat) (l0:List (S63)) (r:Bool) (w:World) (hr0:Kd.C k63 w A0 l0.length l0) (hc0:l0.length≤c0) (h:spec_TrmOk.f k l0=some r) :
  Calls Tryz.prog 62 #[.slice A0 l0.length c0] w fun e w'=>e = .returned (.bool r)∧Below w.heap.size w w':=by
 have hu63:=Tryz.underlying63;have HR0:=Aside0.mk hr0;have HC0:=Aside0.mk hc0;clear hr0 hc0;have HB:=Aside0.mk (Below.refl w.heap.size w);have H:(if (l0.length:Int)=0 then (spec_TrmOk.j0 k l0 true) else (spec_TrmOk.j0 k l0 (decide ((l0.length:Int) > 40))))=some r:=h;clear h;have HC2:=Aside0.mk H;clear H;go_enter Tryz.func62,Tryz.ntmps62;go_upto_region 1 with (fail)
 go_cut [11] (fun v11 wc=>∃ (kq:Nat) (x11_1:Bool),v11 = .bool x11_1∧Aside0 (spec_TrmOk.j0 kq l0 x11_1=some r)∧Aside0 (kq≤k)∧Aside0 (Below w.heap.size w wc))
 case first=>
  have H:=HC2.out;clear HC2;by_cases c3:(l0.length:Int)=0
  ·rw [if_pos c3] at H
   have c3b0:((l0.length:Int) == 0)=true:=beq_iff_eq.mpr c3;have c3b1:((l0.length:Int) != 0)=false:=bne_eq_false_iff_eq.mpr c3;clear c3;(first|rw [c3b0]|rw [c3b1]|(simp only [i64_w,i32_w];rw [c3b0])|skip);have H':=Aside0.mk H;clear H;go_wp2;go_meet
   case rel=>exact ⟨_,(true),qz5,H',⟨qz44⟩,⟨qz1⟩⟩
  ·rw [if_neg c3] at H
   have c3b0:((l0.length:Int) == 0)=false:=beq_eq_false_iff_ne.mpr c3;have c3b1:((l0.length:Int) != 0)=true:=bne_iff_ne.mpr c3;have c3b2:¬ (l0=[]):=fun h_=>c3 (by rw [h_];rfl)
   (first|rw [c3b0]|rw [c3b1]|(simp only [i64_w,i32_w];rw [c3b0])|skip);have H':=Aside0.mk H;clear H;go_wp2;go_meet
   case rel=>exact ⟨_,(decide ((l0.length:Int) > 40)),qz5,H',⟨qz44⟩,⟨qz1⟩⟩
 case rest=>
  clear HC2;obtain ⟨kq,x11_1,rfl,HA,HJ1,HB⟩:=hcut;cases kq with
  | zero=>exact absurd HA.out (by simp [spec_TrmOk.j0])
  | succ kj1=>
   have H:=HA.out;clear HA;simp only [spec_TrmOk.j0] at H;by_cases c4:x11_1=true
   ·subst c4
    have H1:(some false)=some r:=qz26;clear H;have H:=H1;clear H1;obtain rfl:=Option.some.inj H;go_wp2;go_ret;exact ⟨qz2,qz1⟩
   ·replace c4:=Bool.eq_false_iff.mpr c4
    subst c4;have H1:(spec_TrmOk.l0 kj1 l0 0)=some r:=qz15;clear H;have H:=H1;clear H1;have H':=Aside0.mk H;clear H;go_wp2
    go_loopg [3] kj1 (fun kq v3 w'=>∃ (x3_2:Int),v3 = .int .i64 x3_2∧Aside0 (spec_TrmOk.l0 kq l0 x3_2=some r)∧Aside0 (kq≤kj1)∧Aside0 (Below w.heap.size w w'))
    case atStart=>exact ⟨(0),qz5,H',⟨Nat.le_refl _⟩,⟨qz1⟩⟩
    case round=>
     clear H';(try clear c4);obtain ⟨x3_2,rfl,HA,HK2,HB⟩:=hrel;cases gk with
     | zero=>exact absurd HA.out (by simp [spec_TrmOk.l0])
     | succ k2=>
      have H:=HA.out;clear HA;simp only [spec_TrmOk.l0] at H;by_cases c5:x3_2<(l0.length:Int)
      ·rw [if_pos c5] at H
       have c5b0:decide (x3_2<(l0.length:Int))=true:=decide_eq_true c5;clear c5;by_cases c6:0≤x3_2
       ·rw [if_pos c6] at H
        have c6b0:decide (0≤x3_2)=true:=decide_eq_true c6;clear c6;replace H:=Option.bind_eq_some_iff.mp H;obtain ⟨t110,A70,H⟩:=H;(try dsimp only at H);have A7:=Aside0.mk A70;clear A70;have HC8:=Aside0.mk H;clear H;have p109:0≤(x3_2:Int):=of_decide_eq_true qz4;have q109:x3_2<(l0.length:Int):=of_decide_eq_true qz4;obtain ⟨ad109,e109,hx109_0,hx109_1,hx109_2⟩:=at_T63 HR0.out x3_2 p109 q109;cases e109
        replace hx109_0:=(HB.out.cell (World.block_lt_of_cell? w _ hx109_0)).trans hx109_0;replace hx109_1:=(HB.out.cell (World.block_lt_of_cell? w _ hx109_1)).trans hx109_1;replace hx109_2:=(HB.out.cell (World.block_lt_of_cell? w _ hx109_2)).trans hx109_2;replace p109:=eq_true p109;replace q109:=eq_true q109;go_upto_if 23 with (first|(go_at_call 89;(with_reducible refine (spec_l1Cell.calls k2 ((rd_T63 l0 x3_2).f0) ((rd_T63 l0 x3_2).f1) ((rd_T63 l0 x3_2).f2) t110 _ A7.out).mono ?_);rintro e w9 ⟨rfl,hb⟩;have n0_:=Aside0.mk (below_step qz3 hb);clear HB;have HB:=n0_;clear n0_ hb))
        (try simp only [Act.put,sA_,sZ_,sS_]);have H:=HC8.out;clear HC8;by_cases c10:t110=true
        ·subst c10
         have H1:(spec_TrmOk.l0 k2 l0 (wrap64 (x3_2+1)))=some r:=qz26;clear H;have H:=H1;clear H1;have H':=Aside0.mk H;clear H;go_wp2;go_roundg k2
         case measure=>have:=HJ1.out;have:=HK2.out;omega
         case rel=>exact ⟨(wrap64 (x3_2+1)),qz5,H',⟨qz59⟩,⟨qz1⟩⟩
        ·replace c10:=Bool.eq_false_iff.mpr c10
         subst c10;have H1:(some false)=some r:=qz15;clear H;have H:=H1;clear H1;obtain rfl:=Option.some.inj H;go_wp2;go_ret;exact ⟨qz2,qz1⟩
       ·rw [if_neg c6] at H
        exact absurd H (by simp)
      ·rw [if_neg c5] at H
       have c5b0:decide (x3_2<(l0.length:Int))=false:=decide_eq_false c5;clear c5;replace H:=Option.bind_eq_some_iff.mp H;obtain ⟨t108,A110,H⟩:=H;(try dsimp only at H);have A11:=Aside0.mk A110;clear A110;obtain rfl:=Option.some.inj H
       go_wp2_with (first|(go_at_call 90;(with_reducible refine (spec_l1End.calls k2 _ _ l0 0 t108 _ ?side1 ?side2 A11.out).mono ?_);(case side1=>exact qz50);(case side2=>exact HC0.out);rintro e w' ⟨rfl,⟨nd,rfl⟩⟩))
       go_ret;exact ⟨qz2,qz1⟩

/-! ### spec_l3Term: function 40 -/
mutual
def spec_l3Term.j0:Nat→List (S63)→Bool→Option (Bool)
 | 0,_,_=>none
 | k+1,x0,x11=>if x11=true then (some false) else (spec_l3Term.l0 k x0 0)
def spec_l3Term.l0:Nat→List (S63)→Int→Option (Bool)
 | 0,_,_=>none
 | k+1,x0,x3=>if x3<(x0.length:Int) then (if 0≤x3 then (if ((rd_T63 x0 x3).f0)=1 then (if ((rd_T63 x0 x3).f1)≥8 then (some false) else (spec_l3Term.l0 k x0 (wrap64 (x3+1)))) else (spec_l3Term.l0 k x0 (wrap64 (x3+1)))) else (none)) else (some true)
end
def spec_l3Term.f (k:Nat) (l0:List (S63)):Option (Bool):=(spec_TrmOk.f k l0).bind fun t111=>(if t111=true then (spec_l3Term.j0 k l0 (decide ((l0.length:Int) > 12))) else (spec_l3Term.j0 k l0 true))
set_option maxHeartbeats 8000000 in
set_option maxRecDepth 100000 in
theorem spec_l3Term.calls (k:Nat) (A0:Option Addr) (c0:Nat) (l0:List (S63)) (r:Bool) (w:World) (hr0:Kd.C k63 w A0 l0.length l0) (hc0:l0.length≤c0) (h:spec_l3Term.f k l0=some r) :
  Calls Tryz.prog 40 #[.slice A0 l0.length c0] w fun e w'=>e = .returned (.bool r)∧Below w.heap.size w w':=by
 have HR0:=Aside0.mk hr0;have HC0:=Aside0.mk hc0;clear hr0 hc0;have HB:=Aside0.mk (Below.refl w.heap.size w);have H:((spec_TrmOk.f k l0).bind fun t111=>(if t111=true then (spec_l3Term.j0 k l0 (decide ((l0.length:Int) > 12))) else (spec_l3Term.j0 k l0 true)))=some r:=h;clear h;have HC2:=Aside0.mk H;clear H;go_enter Tryz.func40,Tryz.ntmps40;go_upto_region 1 with (fail)
 go_cut [11] (fun v11 wc=>∃ (kq:Nat) (x11_1:Bool),v11 = .bool x11_1∧Aside0 (spec_l3Term.j0 kq l0 x11_1=some r)∧Aside0 (kq≤k)∧Aside0 (Below w.heap.size w wc))
 case first=>
  have H:=HC2.out;clear HC2;replace H:=Option.bind_eq_some_iff.mp H;obtain ⟨t111,A30,H⟩:=H;(try dsimp only at H);have A3:=Aside0.mk A30;clear A30;by_cases c4:t111=true
  ·subst c4
   have H1:(spec_l3Term.j0 k l0 (decide ((l0.length:Int) > 12)))=some r:=qz26;clear H;have H:=H1;clear H1;have H':=Aside0.mk H;clear H
   go_wp2_with (first|(go_at_call 62;(with_reducible refine (spec_TrmOk.calls k _ _ l0 true _ ?side1 ?side2 A3.out).mono ?_);(case side1=>exact qz50);(case side2=>exact HC0.out);rintro e w5 ⟨rfl,hb⟩;have n0_:=Aside0.mk (below_step qz3 hb);clear HB;have HB:=n0_;clear n0_ hb))
   go_meet
   case rel=>exact ⟨_,(decide ((l0.length:Int) > 12)),qz5,H',⟨qz44⟩,⟨qz1⟩⟩
  ·replace c4:=Bool.eq_false_iff.mpr c4
   subst c4;have H1:(spec_l3Term.j0 k l0 true)=some r:=qz15;clear H;have H:=H1;clear H1;have H':=Aside0.mk H;clear H
   go_wp2_with (first|(go_at_call 62;(with_reducible refine (spec_TrmOk.calls k _ _ l0 false _ ?side1 ?side2 A3.out).mono ?_);(case side1=>exact qz50);(case side2=>exact HC0.out);rintro e w6 ⟨rfl,hb⟩;have n0_:=Aside0.mk (below_step qz3 hb);clear HB;have HB:=n0_;clear n0_ hb))
   go_meet
   case rel=>exact ⟨_,(true),qz5,H',⟨qz44⟩,⟨qz1⟩⟩
 case rest=>
  clear HC2;obtain ⟨kq,x11_1,rfl,HA,HJ1,HB⟩:=hcut;cases kq with
  | zero=>exact absurd HA.out (by simp [spec_l3Term.j0])
  | succ kj1=>
   have H:=HA.out;clear HA;simp only [spec_l3Term.j0] at H;by_cases c7:x11_1=true
   ·subst c7
    have H1:(some false)=some r:=qz26;clear H;have H:=H1;clear H1;obtain rfl:=Option.some.inj H;go_wp2;go_ret;exact ⟨qz2,qz1⟩
   ·replace c7:=Bool.eq_false_iff.mpr c7
    subst c7;have H1:(spec_l3Term.l0 kj1 l0 0)=some r:=qz15;clear H;have H:=H1;clear H1;have H':=Aside0.mk H;clear H;go_wp2
    go_loopg [3] kj1 (fun kq v3 w'=>∃ (x3_2:Int),v3 = .int .i64 x3_2∧Aside0 (spec_l3Term.l0 kq l0 x3_2=some r)∧Aside0 (kq≤kj1)∧Aside0 (Below w.heap.size w w'))
    case atStart=>exact ⟨(0),qz5,H',⟨Nat.le_refl _⟩,⟨qz1⟩⟩
    case round=>
     clear H';(try clear c7);obtain ⟨x3_2,rfl,HA,HK2,HB⟩:=hrel;cases gk with
     | zero=>exact absurd HA.out (by simp [spec_l3Term.l0])
     | succ k2=>
      have H:=HA.out;clear HA;simp only [spec_l3Term.l0] at H;by_cases c8:x3_2<(l0.length:Int)
      ·rw [if_pos c8] at H
       have c8b0:decide (x3_2<(l0.length:Int))=true:=decide_eq_true c8;clear c8;by_cases c9:0≤x3_2
       ·rw [if_pos c9] at H
        have c9b0:decide (0≤x3_2)=true:=decide_eq_true c9;clear c9;by_cases c10:((rd_T63 l0 x3_2).f0)=1
        ·rw [if_pos c10] at H
         have c10b0:(((rd_T63 l0 x3_2).f0) == 1)=true:=beq_iff_eq.mpr c10;have c10b1:(((rd_T63 l0 x3_2).f0) != 1)=false:=bne_eq_false_iff_eq.mpr c10;clear c10;by_cases c11:((rd_T63 l0 x3_2).f1)≥8
         ·rw [if_pos c11] at H
          have c11b0:decide (8≤((rd_T63 l0 x3_2).f1))=true:=decide_eq_true c11;clear c11;obtain rfl:=Option.some.inj H;have p112:0≤(x3_2:Int):=of_decide_eq_true qz4;have q112:x3_2<(l0.length:Int):=of_decide_eq_true qz4;obtain ⟨ad112,e112,hx112_0,hx112_1,hx112_2⟩:=at_T63 HR0.out x3_2 p112 q112;cases e112
          replace hx112_0:=(HB.out.cell (World.block_lt_of_cell? w _ hx112_0)).trans hx112_0;replace hx112_1:=(HB.out.cell (World.block_lt_of_cell? w _ hx112_1)).trans hx112_1;replace hx112_2:=(HB.out.cell (World.block_lt_of_cell? w _ hx112_2)).trans hx112_2;replace p112:=eq_true p112;replace q112:=eq_true q112;have p113:0≤(x3_2:Int):=of_decide_eq_true qz4;have q113:x3_2<(l0.length:Int):=of_decide_eq_true qz4;obtain ⟨ad113,e113,hx113_0,hx113_1,hx113_2⟩:=at_T63 HR0.out x3_2 p113 q113;obtain rfl:ad112=ad113:=(by injection e113);replace hx113_0:=(HB.out.cell (World.block_lt_of_cell? w _ hx113_0)).trans hx113_0;replace hx113_1:=(HB.out.cell (World.block_lt_of_cell? w _ hx113_1)).trans hx113_1;replace hx113_2:=(HB.out.cell (World.block_lt_of_cell? w _ hx113_2)).trans hx113_2;replace p113:=eq_true p113;replace q113:=eq_true q113;go_wp2;go_ret;exact ⟨qz2,qz1⟩
         ·rw [if_neg c11] at H
          have c11b0:decide (8≤((rd_T63 l0 x3_2).f1))=false:=decide_eq_false c11;clear c11;have H':=Aside0.mk H;clear H;have p112:0≤(x3_2:Int):=of_decide_eq_true qz4;have q112:x3_2<(l0.length:Int):=of_decide_eq_true qz4;obtain ⟨ad112,e112,hx112_0,hx112_1,hx112_2⟩:=at_T63 HR0.out x3_2 p112 q112;cases e112
          replace hx112_0:=(HB.out.cell (World.block_lt_of_cell? w _ hx112_0)).trans hx112_0;replace hx112_1:=(HB.out.cell (World.block_lt_of_cell? w _ hx112_1)).trans hx112_1;replace hx112_2:=(HB.out.cell (World.block_lt_of_cell? w _ hx112_2)).trans hx112_2;replace p112:=eq_true p112;replace q112:=eq_true q112;have p113:0≤(x3_2:Int):=of_decide_eq_true qz4;have q113:x3_2<(l0.length:Int):=of_decide_eq_true qz4;obtain ⟨ad113,e113,hx113_0,hx113_1,hx113_2⟩:=at_T63 HR0.out x3_2 p113 q113;obtain rfl:ad112=ad113:=(by injection e113);replace hx113_0:=(HB.out.cell (World.block_lt_of_cell? w _ hx113_0)).trans hx113_0;replace hx113_1:=(HB.out.cell (World.block_lt_of_cell? w _ hx113_1)).trans hx113_1;replace hx113_2:=(HB.out.cell (World.block_lt_of_cell? w _ hx113_2)).trans hx113_2;replace p113:=eq_true p113;replace q113:=eq_true q113;go_wp2;go_roundg k2
          case measure=>have:=HJ1.out;have:=HK2.out;omega
          case rel=>exact ⟨(wrap64 (x3_2+1)),qz5,H',⟨qz59⟩,⟨qz1⟩⟩
        ·rw [if_neg c10] at H
         have c10b0:(((rd_T63 l0 x3_2).f0) == 1)=false:=beq_eq_false_iff_ne.mpr c10;have c10b1:(((rd_T63 l0 x3_2).f0) != 1)=true:=bne_iff_ne.mpr c10;have H':=Aside0.mk H;clear H;have p112:0≤(x3_2:Int):=of_decide_eq_true qz4;have q112:x3_2<(l0.length:Int):=of_decide_eq_true qz4;obtain ⟨ad112,e112,hx112_0,hx112_1,hx112_2⟩:=at_T63 HR0.out x3_2 p112 q112;cases e112
         replace hx112_0:=(HB.out.cell (World.block_lt_of_cell? w _ hx112_0)).trans hx112_0;replace hx112_1:=(HB.out.cell (World.block_lt_of_cell? w _ hx112_1)).trans hx112_1;replace hx112_2:=(HB.out.cell (World.block_lt_of_cell? w _ hx112_2)).trans hx112_2;replace p112:=eq_true p112;replace q112:=eq_true q112;go_wp2;go_roundg k2
         case measure=>have:=HJ1.out;have:=HK2.out;omega
         case rel=>exact ⟨(wrap64 (x3_2+1)),qz5,H',⟨qz59⟩,⟨qz1⟩⟩
       ·rw [if_neg c9] at H
        exact absurd H (by simp)
      ·rw [if_neg c8] at H
       have c8b0:decide (x3_2<(l0.length:Int))=false:=decide_eq_false c8;clear c8;obtain rfl:=Option.some.inj H;go_wp2;go_ret;exact ⟨qz2,qz1⟩

/-! ### spec_l3Call: function 41 -/
def spec_l3Call.f (l0:List (S63)):Option (Bool):=if (l0.length:Int) > 0 then (if 0<(l0.length:Int) then (some (((rd_T63 l0 0).f0) == 3)) else (none)) else (some false)
set_option maxHeartbeats 8000000 in
set_option maxRecDepth 100000 in
theorem spec_l3Call.calls (A0:Option Addr) (c0:Nat) (l0:List (S63)) (r:Bool) (w:World) (hr0:Kd.C k63 w A0 l0.length l0) (hc0:l0.length≤c0) (h:spec_l3Call.f l0=some r) :
  Calls Tryz.prog 41 #[.slice A0 l0.length c0] w fun e w'=>e = .returned (.bool r)∧Drawn0 w w':=by
 have HR0:=Aside0.mk hr0;have HC0:=Aside0.mk hc0;clear hr0 hc0;have H:(if (l0.length:Int) > 0 then (if 0<(l0.length:Int) then (some (((rd_T63 l0 0).f0) == 3)) else (none)) else (some false))=some r:=h;clear h;by_cases c2:(l0.length:Int) > 0
 ·rw [if_pos c2] at H
  have c2b0:decide (0<(l0.length:Int))=true:=decide_eq_true c2;have c2b1:decide (0<l0.length)=true:=decide_eq_true (by omega);clear c2;by_cases c3:0<(l0.length:Int)
  ·rw [if_pos c3] at H
   have c3b0:decide (0<(l0.length:Int))=true:=decide_eq_true c3;have c3b1:decide (0<l0.length)=true:=decide_eq_true (by omega);clear c3;obtain rfl:=Option.some.inj H;have p114:0≤(0:Int):=(by omega);have q114:0<(l0.length:Int):=of_decide_eq_true qz4;obtain ⟨ad114,e114,hx114_0,hx114_1,hx114_2⟩:=at_T63 HR0.out 0 p114 q114;cases e114
   have qi114:(0<l0.length)=True:=eq_true (by omega);(try rw [show ((0:Int)).toNat=0 from rfl] at hx114_0);(try rw [show 0 * 3=0 from rfl] at hx114_0);(try rw [Addr.add_zero'] at hx114_0);(try rw [show ((0:Int)).toNat=0 from rfl] at hx114_1);(try rw [show 0 * 3=0 from rfl] at hx114_1);(try rw [Addr.add_zero'] at hx114_1);(try rw [show ((0:Int)).toNat=0 from rfl] at hx114_2);(try rw [show 0 * 3=0 from rfl] at hx114_2);(try rw [Addr.add_zero'] at hx114_2);replace p114:=eq_true p114;replace q114:=eq_true q114;go_enter Tryz.func41,Tryz.ntmps41;go_wp2;go_ret;exact ⟨qz5,qz20⟩
  ·rw [if_neg c3] at H
   exact absurd H (by simp)
 ·rw [if_neg c2] at H
  have c2b0:decide (0<(l0.length:Int))=false:=decide_eq_false c2;have c2b1:decide (0<l0.length)=false:=decide_eq_false (by omega);clear c2;obtain rfl:=Option.some.inj H;go_enter Tryz.func41,Tryz.ntmps41;go_wp2;go_ret;exact ⟨qz5,qz20⟩

/-! ### spec_GoalOk: function 17 -/
def spec_GoalOk.j0:Nat→Int→Bool→Int→List (S63)→List (S63)→List (S63)→Option (Bool)
 | 0,_,_,_,_,_,_=>none
 | k+1,x4,x39,x116000,x116001,x116002,x116003=>if x39=true then ((spec_l3Term.f k x116001).bind fun t118=>(if t118=true then ((spec_l3Term.f k x116002).bind fun t119=>(if t119=true then (some ((x116003.length:Int) == 0)) else (some false))) else (some false))) else (if x4=5 then ((spec_l3Term.f k x116001).bind fun t120=>(if t120=true then ((spec_l3Term.f k x116002).bind fun t121=>(if t121=true then ((spec_l3Term.f k x116003).bind fun t122=>(some t122)) else (some false))) else (some false))) else (some false))
def spec_GoalOk.f (k:Nat) (a0_0:Int) (l0_1:List (S63)) (l0_2:List (S63)) (l0_3:List (S63)):Option (Bool):=if a0_0=1 then ((spec_l3Term.f k l0_1).bind fun t116=>(if t116=true then ((spec_l3Call.f l0_1).bind fun t117=>(if t117=true then (some ((wrap64 ((l0_2.length:Int)+(l0_3.length:Int))) == 0)) else (some false))) else (some false))) else (if a0_0=3 then (some ((wrap64 ((wrap64 ((l0_1.length:Int)+(l0_2.length:Int)))+(l0_3.length:Int))) == 0)) else (if a0_0=2 then (spec_GoalOk.j0 k a0_0 (a0_0 == 2) a0_0 l0_1 l0_2 l0_3) else (spec_GoalOk.j0 k a0_0 (a0_0 == 4) a0_0 l0_1 l0_2 l0_3)))
set_option maxHeartbeats 8000000 in
set_option maxRecDepth 100000 in
theorem spec_GoalOk.calls (k:Nat) (a0_0:Int) (A0_1:Option Addr) (c0_1:Nat) (l0_1:List (S63)) (A0_2:Option Addr) (c0_2:Nat) (l0_2:List (S63)) (A0_3:Option Addr) (c0_3:Nat) (l0_3:List (S63)) (r:Bool) (w:World) (hr0_1:Kd.C k63 w A0_1 l0_1.length l0_1) (hc0_1:l0_1.length≤c0_1) (hr0_2:Kd.C k63 w A0_2 l0_2.length l0_2) (hc0_2:l0_2.length≤c0_2) (hr0_3:Kd.C k63 w A0_3 l0_3.length l0_3) (hc0_3:l0_3.length≤c0_3) (h:spec_GoalOk.f k a0_0 l0_1 l0_2 l0_3=some r) :
  Calls Tryz.prog 17 #[.agg #[.int .i64 a0_0,.slice A0_1 l0_1.length c0_1,.slice A0_2 l0_2.length c0_2,.slice A0_3 l0_3.length c0_3]] w fun e w'=>e = .returned (.bool r)∧Below w.heap.size w w':=by
 have hu24:=Tryz.underlying24;have HR0_1:=Aside0.mk hr0_1;have HC0_1:=Aside0.mk hc0_1;clear hr0_1 hc0_1;have HR0_2:=Aside0.mk hr0_2;have HC0_2:=Aside0.mk hc0_2;clear hr0_2 hc0_2;have HR0_3:=Aside0.mk hr0_3;have HC0_3:=Aside0.mk hc0_3;clear hr0_3 hc0_3;have HB:=Aside0.mk (Below.refl w.heap.size w);have H:(if a0_0=1 then ((spec_l3Term.f k l0_1).bind fun t116=>(if t116=true then ((spec_l3Call.f l0_1).bind fun t117=>(if t117=true then (some ((wrap64 ((l0_2.length:Int)+(l0_3.length:Int))) == 0)) else (some false))) else (some false))) else (if a0_0=3 then (some ((wrap64 ((wrap64 ((l0_1.length:Int)+(l0_2.length:Int)))+(l0_3.length:Int))) == 0)) else (if a0_0=2 then (spec_GoalOk.j0 k a0_0 (a0_0 == 2) a0_0 l0_1 l0_2 l0_3) else (spec_GoalOk.j0 k a0_0 (a0_0 == 4) a0_0 l0_1 l0_2 l0_3))))=some r:=h;clear h;have HC2:=Aside0.mk H;clear H;go_enter Tryz.func17,Tryz.ntmps17;go_upto_if 5 with (first|((with_reducible refine gate_dst (N:=1) rfl ?_);(try (refine gate_guard (by rfl) ?_;dsimp only));refine box_event ?hg (N:=1) ?hd (cs:=#[.int .i64 a0_0,.slice A0_1 l0_1.length c0_1,.slice A0_2 l0_2.length c0_2,.slice A0_3 l0_3.length c0_3]) (t:=24) ?hr ?_;(case hd=>rfl);(case hg=>rfl);(case hr=>first|(go_simp;done)|(go_simp;rfl));intro gb115 hg w3 hbox hb;have n_:=as3 (below_step qz3 hb) (hbox) ((by rw [hg];exact (below_size qz3):w.heap.size≤gb115));clear HB;obtain ⟨HB,BK115,GE115⟩:=n_;clear hb hbox hg;obtain ⟨hcz4_0,hcz4_1,hcz4_2,hcz4_3,hfz4_0,hfz4_1,hfz4_2,hfz4_3⟩:=blk4 BK115.out))
 (try simp only [Act.put,sA_,sZ_,sS_]);have H:=HC2.out;clear HC2;by_cases c5:a0_0=1
 ·rw [if_pos c5] at H
  have c5b0:(a0_0 == 1)=true:=beq_iff_eq.mpr c5;have c5b1:(a0_0 != 1)=false:=bne_eq_false_iff_eq.mpr c5;clear c5;(first|rw [c5b0]|rw [c5b1]|(simp only [i64_w,i32_w];rw [c5b0])|skip);replace H:=Option.bind_eq_some_iff.mp H;obtain ⟨t116,A60,H⟩:=H;(try dsimp only at H);have A6:=Aside0.mk A60;clear A60;by_cases c7:t116=true
  ·subst c7
   have H1:((spec_l3Call.f l0_1).bind fun t117=>(if t117=true then (some ((wrap64 ((l0_2.length:Int)+(l0_3.length:Int))) == 0)) else (some false)))=some r:=qz26;clear H;have H:=H1;clear H1;replace H:=Option.bind_eq_some_iff.mp H;obtain ⟨t117,A80,H⟩:=H;(try dsimp only at H);have A8:=Aside0.mk A80;clear A80;by_cases c9:t117=true
   ·subst c9
    have H1:(some ((wrap64 ((l0_2.length:Int)+(l0_3.length:Int))) == 0))=some r:=qz26;clear H;have H:=H1;clear H1;obtain rfl:=Option.some.inj H;obtain ⟨hcz10_0,hcz10_1,hcz10_2,hcz10_3,hfz10_0,hfz10_1,hfz10_2,hfz10_3⟩:=blk4 BK115.out
    go_wp2_with (first|(go_at_call 40;(with_reducible refine (spec_l3Term.calls k _ _ l0_1 true _ ?side1 ?side2 A6.out).mono ?_);(case side1=>exact qz8);(case side2=>exact HC0_1.out);rintro e w11 ⟨rfl,hb⟩;have n_:=as2 (blk_below (blkp BK115.out) hb) (below_step qz9 hb);clear BK115 HB;obtain ⟨BK115,HB⟩:=n_;clear hb;obtain ⟨hcz12_0,hcz12_1,hcz12_2,hcz12_3,hfz12_0,hfz12_1,hfz12_2,hfz12_3⟩:=blk4 BK115.out)|(go_at_call 41;(with_reducible refine (spec_l3Call.calls _ _ l0_1 true _ ?side1 ?side2 A8.out).mono ?_);(case side1=>exact qz8);(case side2=>exact HC0_1.out);rintro e w' ⟨rfl,⟨nd,rfl⟩⟩))
    go_ret;exact ⟨qz2,qz9⟩
   ·replace c9:=Bool.eq_false_iff.mpr c9
    subst c9;have H1:(some false)=some r:=qz15;clear H;have H:=H1;clear H1;obtain rfl:=Option.some.inj H;obtain ⟨hcz13_0,hcz13_1,hcz13_2,hcz13_3,hfz13_0,hfz13_1,hfz13_2,hfz13_3⟩:=blk4 BK115.out
    go_wp2_with (first|(go_at_call 40;(with_reducible refine (spec_l3Term.calls k _ _ l0_1 true _ ?side1 ?side2 A6.out).mono ?_);(case side1=>exact qz8);(case side2=>exact HC0_1.out);rintro e w14 ⟨rfl,hb⟩;have n_:=as2 (blk_below (blkp BK115.out) hb) (below_step qz9 hb);clear BK115 HB;obtain ⟨BK115,HB⟩:=n_;clear hb;obtain ⟨hcz15_0,hcz15_1,hcz15_2,hcz15_3,hfz15_0,hfz15_1,hfz15_2,hfz15_3⟩:=blk4 BK115.out)|(go_at_call 41;(with_reducible refine (spec_l3Call.calls _ _ l0_1 false _ ?side1 ?side2 A8.out).mono ?_);(case side1=>exact qz8);(case side2=>exact HC0_1.out);rintro e w' ⟨rfl,⟨nd,rfl⟩⟩))
    go_ret;exact ⟨qz2,qz9⟩
  ·replace c7:=Bool.eq_false_iff.mpr c7
   subst c7;have H1:(some false)=some r:=qz15;clear H;have H:=H1;clear H1;obtain rfl:=Option.some.inj H;obtain ⟨hcz16_0,hcz16_1,hcz16_2,hcz16_3,hfz16_0,hfz16_1,hfz16_2,hfz16_3⟩:=blk4 BK115.out
   go_wp2_with (first|(go_at_call 40;(with_reducible refine (spec_l3Term.calls k _ _ l0_1 false _ ?side1 ?side2 A6.out).mono ?_);(case side1=>exact qz8);(case side2=>exact HC0_1.out);rintro e w17 ⟨rfl,hb⟩;have n_:=as2 (blk_below (blkp BK115.out) hb) (below_step qz9 hb);clear BK115 HB;obtain ⟨BK115,HB⟩:=n_;clear hb))
   go_ret;exact ⟨qz2,qz9⟩
 ·rw [if_neg c5] at H
  have c5b0:(a0_0 == 1)=false:=beq_eq_false_iff_ne.mpr c5;have c5b1:(a0_0 != 1)=true:=bne_iff_ne.mpr c5;(first|rw [c5b0]|rw [c5b1]|(simp only [i64_w,i32_w];rw [c5b0])|skip);by_cases c18:a0_0=3
  ·rw [if_pos c18] at H
   have c18b0:(a0_0 == 3)=true:=beq_iff_eq.mpr c18;have c18b1:(a0_0 != 3)=false:=bne_eq_false_iff_eq.mpr c18;clear c18;obtain rfl:=Option.some.inj H;obtain ⟨hcz19_0,hcz19_1,hcz19_2,hcz19_3,hfz19_0,hfz19_1,hfz19_2,hfz19_3⟩:=blk4 BK115.out;go_wp2;go_ret;exact ⟨qz2,qz9⟩
  ·rw [if_neg c18] at H
   have c18b0:(a0_0 == 3)=false:=beq_eq_false_iff_ne.mpr c18;have c18b1:(a0_0 != 3)=true:=bne_iff_ne.mpr c18;have HC20:=Aside0.mk H;clear H;go_upto_if 39 with (fail)
   go_cut [39] (fun v39 wc=>∃ (kq:Nat) (x39_19:Bool),v39 = .bool x39_19∧Aside0 (spec_GoalOk.j0 kq a0_0 x39_19 a0_0 l0_1 l0_2 l0_3=some r)∧Aside0 (kq≤k)∧Aside0 (wc.heap[gb115]?=some (.cells #[.int .i64 a0_0,(.slice A0_1 l0_1.length c0_1),(.slice A0_2 l0_2.length c0_2),(.slice A0_3 l0_3.length c0_3)] 24 (0,0)))∧Aside0 (Below w.heap.size w wc))
   case first=>
    have H:=HC20.out;clear HC20;by_cases c21:a0_0=2
    ·rw [if_pos c21] at H
     have c21b0:(a0_0 == 2)=true:=beq_iff_eq.mpr c21;have c21b1:(a0_0 != 2)=false:=bne_eq_false_iff_eq.mpr c21;clear c21;(first|rw [c21b0]|rw [c21b1]|(simp only [i64_w,i32_w];rw [c21b0])|skip);have H':=Aside0.mk H;clear H;go_wp2;go_meet
     case rel=>exact ⟨_,((a0_0 == 2)),qz5,H',⟨qz44⟩,⟨blkp BK115.out⟩,⟨qz9⟩⟩
    ·rw [if_neg c21] at H
     have c21b0:(a0_0 == 2)=false:=beq_eq_false_iff_ne.mpr c21;have c21b1:(a0_0 != 2)=true:=bne_iff_ne.mpr c21;(first|rw [c21b0]|rw [c21b1]|(simp only [i64_w,i32_w];rw [c21b0])|skip);have H':=Aside0.mk H;clear H;go_wp2;go_meet
     case rel=>exact ⟨_,((a0_0 == 4)),qz5,H',⟨qz44⟩,⟨blkp BK115.out⟩,⟨qz9⟩⟩
   case rest=>
    clear HC20;(try clear c5);(try clear c5b0);(try clear c5b1);(try clear c18);(try clear c18b0);(try clear c18b1);(try clear hcz4_0);(try clear hcz4_1);(try clear hcz4_2);(try clear hcz4_3);(try clear hfz4_0);(try clear hfz4_1);(try clear hfz4_2);(try clear hfz4_3);obtain ⟨kq,x39_19,rfl,HA,HJ19,BK115,HB⟩:=hcut;cases kq with
    | zero=>exact absurd HA.out (by simp [spec_GoalOk.j0])
    | succ kj19=>
     have H:=HA.out;clear HA;simp only [spec_GoalOk.j0] at H;by_cases c22:x39_19=true
     ·subst c22
      have H1:((spec_l3Term.f kj19 l0_1).bind fun t118=>(if t118=true then ((spec_l3Term.f kj19 l0_2).bind fun t119=>(if t119=true then (some ((l0_3.length:Int) == 0)) else (some false))) else (some false)))=some r:=qz26;clear H;have H:=H1;clear H1;replace H:=Option.bind_eq_some_iff.mp H;obtain ⟨t118,A230,H⟩:=H;(try dsimp only at H);have A23:=Aside0.mk A230;clear A230;by_cases c24:t118=true
      ·subst c24
       have H1:((spec_l3Term.f kj19 l0_2).bind fun t119=>(if t119=true then (some ((l0_3.length:Int) == 0)) else (some false)))=some r:=qz26;clear H;have H:=H1;clear H1;replace H:=Option.bind_eq_some_iff.mp H;obtain ⟨t119,A250,H⟩:=H;(try dsimp only at H);have A25:=Aside0.mk A250;clear A250;by_cases c26:t119=true
       ·subst c26
        have H1:(some ((l0_3.length:Int) == 0))=some r:=qz26;clear H;have H:=H1;clear H1;obtain rfl:=Option.some.inj H;obtain ⟨hcz27_0,hcz27_1,hcz27_2,hcz27_3,hfz27_0,hfz27_1,hfz27_2,hfz27_3⟩:=blk4 BK115.out
        go_wp2_with (first|(go_at_call 40;(with_reducible refine (spec_l3Term.calls kj19 _ _ l0_1 true _ ?side1 ?side2 A23.out).mono ?_);(case side1=>exact qz8);(case side2=>exact HC0_1.out);rintro e w28 ⟨rfl,hb⟩;have n_:=as2 (blk_below (blkp BK115.out) hb) (below_step qz9 hb);clear BK115 HB;obtain ⟨BK115,HB⟩:=n_;clear hb;obtain ⟨hcz29_0,hcz29_1,hcz29_2,hcz29_3,hfz29_0,hfz29_1,hfz29_2,hfz29_3⟩:=blk4 BK115.out)|(go_at_call 40;(with_reducible refine (spec_l3Term.calls kj19 _ _ l0_2 true _ ?side1 ?side2 A25.out).mono ?_);(case side1=>exact qz18);(case side2=>exact HC0_2.out);rintro e w30 ⟨rfl,hb⟩;have n_:=as2 (blk_below (blkp BK115.out) hb) (below_step qz9 hb);clear BK115 HB;obtain ⟨BK115,HB⟩:=n_;clear hb;obtain ⟨hcz31_0,hcz31_1,hcz31_2,hcz31_3,hfz31_0,hfz31_1,hfz31_2,hfz31_3⟩:=blk4 BK115.out))
        go_ret;exact ⟨qz2,qz9⟩
       ·replace c26:=Bool.eq_false_iff.mpr c26
        subst c26;have H1:(some false)=some r:=qz15;clear H;have H:=H1;clear H1;obtain rfl:=Option.some.inj H;obtain ⟨hcz32_0,hcz32_1,hcz32_2,hcz32_3,hfz32_0,hfz32_1,hfz32_2,hfz32_3⟩:=blk4 BK115.out
        go_wp2_with (first|(go_at_call 40;(with_reducible refine (spec_l3Term.calls kj19 _ _ l0_1 true _ ?side1 ?side2 A23.out).mono ?_);(case side1=>exact qz8);(case side2=>exact HC0_1.out);rintro e w33 ⟨rfl,hb⟩;have n_:=as2 (blk_below (blkp BK115.out) hb) (below_step qz9 hb);clear BK115 HB;obtain ⟨BK115,HB⟩:=n_;clear hb;obtain ⟨hcz34_0,hcz34_1,hcz34_2,hcz34_3,hfz34_0,hfz34_1,hfz34_2,hfz34_3⟩:=blk4 BK115.out)|(go_at_call 40;(with_reducible refine (spec_l3Term.calls kj19 _ _ l0_2 false _ ?side1 ?side2 A25.out).mono ?_);(case side1=>exact qz18);(case side2=>exact HC0_2.out);rintro e w35 ⟨rfl,hb⟩;have n_:=as2 (blk_below (blkp BK115.out) hb) (below_step qz9 hb);clear BK115 HB;obtain ⟨BK115,HB⟩:=n_;clear hb))
        go_ret;exact ⟨qz2,qz9⟩
      ·replace c24:=Bool.eq_false_iff.mpr c24
       subst c24;have H1:(some false)=some r:=qz15;clear H;have H:=H1;clear H1;obtain rfl:=Option.some.inj H;obtain ⟨hcz36_0,hcz36_1,hcz36_2,hcz36_3,hfz36_0,hfz36_1,hfz36_2,hfz36_3⟩:=blk4 BK115.out
       go_wp2_with (first|(go_at_call 40;(with_reducible refine (spec_l3Term.calls kj19 _ _ l0_1 false _ ?side1 ?side2 A23.out).mono ?_);(case side1=>exact qz8);(case side2=>exact HC0_1.out);rintro e w37 ⟨rfl,hb⟩;have n_:=as2 (blk_below (blkp BK115.out) hb) (below_step qz9 hb);clear BK115 HB;obtain ⟨BK115,HB⟩:=n_;clear hb))
       go_ret;exact ⟨qz2,qz9⟩
     ·replace c22:=Bool.eq_false_iff.mpr c22
      subst c22;have H1:(if a0_0=5 then ((spec_l3Term.f kj19 l0_1).bind fun t120=>(if t120=true then ((spec_l3Term.f kj19 l0_2).bind fun t121=>(if t121=true then ((spec_l3Term.f kj19 l0_3).bind fun t122=>(some t122)) else (some false))) else (some false))) else (some false))=some r:=qz15;clear H;have H:=H1;clear H1;by_cases c38:a0_0=5
      ·rw [if_pos c38] at H
       have c38b0:(a0_0 == 5)=true:=beq_iff_eq.mpr c38;have c38b1:(a0_0 != 5)=false:=bne_eq_false_iff_eq.mpr c38;clear c38;replace H:=Option.bind_eq_some_iff.mp H;obtain ⟨t120,A390,H⟩:=H;(try dsimp only at H);have A39:=Aside0.mk A390;clear A390;by_cases c40:t120=true
       ·subst c40
        have H1:((spec_l3Term.f kj19 l0_2).bind fun t121=>(if t121=true then ((spec_l3Term.f kj19 l0_3).bind fun t122=>(some t122)) else (some false)))=some r:=qz26;clear H;have H:=H1;clear H1;replace H:=Option.bind_eq_some_iff.mp H;obtain ⟨t121,A410,H⟩:=H;(try dsimp only at H);have A41:=Aside0.mk A410;clear A410;by_cases c42:t121=true
        ·subst c42
         have H1:((spec_l3Term.f kj19 l0_3).bind fun t122=>(some t122))=some r:=qz26;clear H;have H:=H1;clear H1;replace H:=Option.bind_eq_some_iff.mp H;obtain ⟨t122,A430,H⟩:=H;(try dsimp only at H);have A43:=Aside0.mk A430;clear A430;obtain rfl:=Option.some.inj H;obtain ⟨hcz44_0,hcz44_1,hcz44_2,hcz44_3,hfz44_0,hfz44_1,hfz44_2,hfz44_3⟩:=blk4 BK115.out
         go_wp2_with (first|(go_at_call 40;(with_reducible refine (spec_l3Term.calls kj19 _ _ l0_1 true _ ?side1 ?side2 A39.out).mono ?_);(case side1=>exact qz8);(case side2=>exact HC0_1.out);rintro e w45 ⟨rfl,hb⟩;have n_:=as2 (blk_below (blkp BK115.out) hb) (below_step qz9 hb);clear BK115 HB;obtain ⟨BK115,HB⟩:=n_;clear hb;obtain ⟨hcz46_0,hcz46_1,hcz46_2,hcz46_3,hfz46_0,hfz46_1,hfz46_2,hfz46_3⟩:=blk4 BK115.out)|(go_at_call 40;(with_reducible refine (spec_l3Term.calls kj19 _ _ l0_2 true _ ?side1 ?side2 A41.out).mono ?_);(case side1=>exact qz18);(case side2=>exact HC0_2.out);rintro e w47 ⟨rfl,hb⟩;have n_:=as2 (blk_below (blkp BK115.out) hb) (below_step qz9 hb);clear BK115 HB;obtain ⟨BK115,HB⟩:=n_;clear hb;obtain ⟨hcz48_0,hcz48_1,hcz48_2,hcz48_3,hfz48_0,hfz48_1,hfz48_2,hfz48_3⟩:=blk4 BK115.out)|(go_at_call 40;(with_reducible refine (spec_l3Term.calls kj19 _ _ l0_3 t122 _ ?side1 ?side2 A43.out).mono ?_);(case side1=>exact qz30);(case side2=>exact HC0_3.out);rintro e w49 ⟨rfl,hb⟩;have n_:=as2 (blk_below (blkp BK115.out) hb) (below_step qz9 hb);clear BK115 HB;obtain ⟨BK115,HB⟩:=n_;clear hb))
         go_ret;exact ⟨qz2,qz9⟩
        ·replace c42:=Bool.eq_false_iff.mpr c42
         subst c42;have H1:(some false)=some r:=qz15;clear H;have H:=H1;clear H1;obtain rfl:=Option.some.inj H;obtain ⟨hcz50_0,hcz50_1,hcz50_2,hcz50_3,hfz50_0,hfz50_1,hfz50_2,hfz50_3⟩:=blk4 BK115.out
         go_wp2_with (first|(go_at_call 40;(with_reducible refine (spec_l3Term.calls kj19 _ _ l0_1 true _ ?side1 ?side2 A39.out).mono ?_);(case side1=>exact qz8);(case side2=>exact HC0_1.out);rintro e w51 ⟨rfl,hb⟩;have n_:=as2 (blk_below (blkp BK115.out) hb) (below_step qz9 hb);clear BK115 HB;obtain ⟨BK115,HB⟩:=n_;clear hb;obtain ⟨hcz52_0,hcz52_1,hcz52_2,hcz52_3,hfz52_0,hfz52_1,hfz52_2,hfz52_3⟩:=blk4 BK115.out)|(go_at_call 40;(with_reducible refine (spec_l3Term.calls kj19 _ _ l0_2 false _ ?side1 ?side2 A41.out).mono ?_);(case side1=>exact qz18);(case side2=>exact HC0_2.out);rintro e w53 ⟨rfl,hb⟩;have n_:=as2 (blk_below (blkp BK115.out) hb) (below_step qz9 hb);clear BK115 HB;obtain ⟨BK115,HB⟩:=n_;clear hb))
         go_ret;exact ⟨qz2,qz9⟩
       ·replace c40:=Bool.eq_false_iff.mpr c40
        subst c40;have H1:(some false)=some r:=qz15;clear H;have H:=H1;clear H1;obtain rfl:=Option.some.inj H;obtain ⟨hcz54_0,hcz54_1,hcz54_2,hcz54_3,hfz54_0,hfz54_1,hfz54_2,hfz54_3⟩:=blk4 BK115.out
        go_wp2_with (first|(go_at_call 40;(with_reducible refine (spec_l3Term.calls kj19 _ _ l0_1 false _ ?side1 ?side2 A39.out).mono ?_);(case side1=>exact qz8);(case side2=>exact HC0_1.out);rintro e w55 ⟨rfl,hb⟩;have n_:=as2 (blk_below (blkp BK115.out) hb) (below_step qz9 hb);clear BK115 HB;obtain ⟨BK115,HB⟩:=n_;clear hb))
        go_ret;exact ⟨qz2,qz9⟩
      ·rw [if_neg c38] at H
       have c38b0:(a0_0 == 5)=false:=beq_eq_false_iff_ne.mpr c38;have c38b1:(a0_0 != 5)=true:=bne_iff_ne.mpr c38;obtain rfl:=Option.some.inj H;go_wp2;go_ret;exact ⟨qz2,qz9⟩

/-! ### spec_l3Words: function 24 -/
def spec_l3Words.l0:Nat→ByteArray→List ByteArray→ByteArray→Int→Option (List ByteArray)
 | 0,_,_,_,_=>none
 | k+1,x0,x3,x4,x5=>if x5<(x0.size:Int) then (if 0≤x5 then (if (bt x0 x5)=32 then (if x3.length<8796093022208 then (spec_l3Words.l0 k x0 (x3++[x4]) (⟨#[]⟩:ByteArray) (wrap64 (x5+1))) else (none)) else (if x5≤(wrap64 (x5+1)) then (if (wrap64 (x5+1))≤(x0.size:Int) then (if x4.size+(x0.extract (x5:Int).toNat ((wrap64 (x5+1)):Int).toNat).size≤9223372036854775807 then (spec_l3Words.l0 k x0 x3 (x4++(x0.extract (x5:Int).toNat ((wrap64 (x5+1)):Int).toNat)) (wrap64 (x5+1))) else (none)) else (none)) else (none))) else (none)) else (if x3.length<8796093022208 then (some (x3++[x4])) else (none))
def spec_l3Words.f (k:Nat) (a0:ByteArray):Option (List ByteArray):=spec_l3Words.l0 k a0 (([]:List ByteArray)) (⟨#[]⟩:ByteArray) 0
set_option maxHeartbeats 8000000 in
set_option maxRecDepth 100000 in
theorem spec_l3Words.calls (k:Nat) (a0:ByteArray) (r:List ByteArray) (w:World) (h:spec_l3Words.f k a0=some r) :
  Calls Tryz.prog 24 #[.string a0] w fun e w'=>∃ v0_:Value,e = .returned (v0_)∧Kd.R Kd.string 9 w' w.heap.size (fun _=>True) v0_ r∧Below w.heap.size w w':=by
 have HB:=Aside0.mk (Below.refl w.heap.size w);have H:(spec_l3Words.l0 k a0 (([]:List ByteArray)) (⟨#[]⟩:ByteArray) 0)=some r:=h;clear h;obtain ⟨y123,hy123⟩:∃ y_:List ByteArray,y_=(([]:List ByteArray)):=⟨_,rfl⟩;replace H:(spec_l3Words.l0 k a0 y123 (⟨#[]⟩:ByteArray) 0)=some r:=by first|(rw [hy123];exact H)|exact H
 have Ny123:=Aside0.mk hy123;clear hy123;have H':=Aside0.mk H;clear H;go_enter Tryz.func24,Tryz.ntmps24
 go_wp2_with (first|((with_reducible refine gate_dst (N:=6) rfl ?_);refine Kd.R_lit Kd.string _ 9 ?hg (N:=6) ?hd (xs:=([]:List ByteArray)) (inner:=[]) (ok:=fun _=>True) (okp:=fun _=>True) ?hr ?hp (fun _ hk=>hk) trivial (Below.refl _ _) (Nat.le_refl _) (by simp) ?_;(case hd=>rfl);(case hg=>rfl);(case hr=>first|(go_simp;done)|(go_simp;rfl));(case hp=>exact (Reps.none _ _));intro v124 w2 ho3 hb hg_ hnew_;clear hg_ hnew_;(first|rw [← Ny123.out] at ho3|(simp only [Int.reduceToNat] at ho3;rw [← Ny123.out] at ho3));have n_:=as2 (Kd.R_lower ho3 (below_size qz3)) (below_step qz3 hb);clear HB;obtain ⟨HO125,HB⟩:=n_;clear hb ho3))
 go_loopg [3,4,5] k (fun kq v3 v4 v5 w'=>∃ (x3_1:List ByteArray) (x4_1:ByteArray) (x5_1:Int),v4 = .string x4_1∧v5 = .int .i64 x5_1∧Aside0 (spec_l3Words.l0 kq a0 x3_1 x4_1 x5_1=some r)∧Aside0 (kq≤k)∧Aside0 (Kd.R Kd.string 9 w' w.heap.size (fun _=>True) v3 x3_1)∧Aside0 (Below w.heap.size w w'))
 case atStart=>exact ⟨(y123),((⟨#[]⟩:ByteArray)),(0),qz5,qz5,H',⟨Nat.le_refl _⟩,⟨Kd.Rp HO125.out⟩,⟨qz1⟩⟩
 case round=>
  clear H';obtain ⟨x3_1,x4_1,x5_1,rfl,rfl,HA,HK1,HO_3,HB⟩:=hrel;cases gk with
  | zero=>exact absurd HA.out (by simp [spec_l3Words.l0])
  | succ k1=>
   have H:=HA.out;clear HA;simp only [spec_l3Words.l0] at H;by_cases c4:x5_1<(a0.size:Int)
   ·rw [if_pos c4] at H
    have c4b0:decide (x5_1<(a0.size:Int))=true:=decide_eq_true c4;clear c4;by_cases c5:0≤x5_1
    ·rw [if_pos c5] at H
     have c5b0:decide (0≤x5_1)=true:=decide_eq_true c5;clear c5;by_cases c7:(bt a0 x5_1)=32
     ·rw [if_pos c7] at H
      have c7b0:((bt a0 x5_1) == 32)=true:=beq_iff_eq.mpr c7;have c7b1:((bt a0 x5_1) != 32)=false:=bne_eq_false_iff_eq.mpr c7;clear c7;by_cases c8:x3_1.length<8796093022208
      ·rw [if_pos c8] at H
       have LMc8:=Aside0.mk c8;clear c8;obtain ⟨y129,hy129⟩:∃ y_:List ByteArray,y_=(x3_1++[x4_1]):=⟨_,rfl⟩;replace H:(spec_l3Words.l0 k1 a0 y129 (⟨#[]⟩:ByteArray) (wrap64 (x5_1+1)))=some r:=by first|(rw [hy129];exact H)|exact H
       have Ny129:=Aside0.mk hy129;clear hy129;have H':=Aside0.mk H;clear H;have p6:0≤(x5_1:Int):=of_decide_eq_true qz4;have q6:x5_1<(a0.size:Int):=of_decide_eq_true qz4;have hx6:=bt_at a0 x5_1;replace p6:=eq_true p6;replace q6:=eq_true q6
       go_wp2_with (first|((with_reducible refine gate_builtin (b:=.append) (xs:=#[.tmp 17,.tmp 19]) rfl ?_);at_builtin;refine Kd.R_append Kd.string (w0:=w) w.heap.size rfl (.tmp 17) (.tmp 19) 44 9 (.string ⟨#[]⟩) 16 rfl Tryz.underlying44 info9 rfl (by decide) (by omega) u3 x3_1 x4_1 [.string x4_1] (fun _=>True) (fun _=>False) rfl rfl ?aP (fun _ hk=>hk.elim) ?aF ?aO ?aB ?aS ?aL ?_;(case aP=>exact rfl);(case aB=>exact qz3);(case aF=>exact (fun _ _=>trivial));(case aO=>exact (Kd.Rp HO_3.out));(case aS=>exact (below_size qz3));(case aL=>have:=LMc8.out;omega);intro v130 w9 ho hb hg hat;rw [← Ny129.out] at ho;have n_:=as2 (hb) (ho);clear HB HO_3;obtain ⟨HB,HO131⟩:=n_;clear ho hb hg hat))
       go_roundg k1
       case measure=>have:=HK1.out;omega
       case rel=>exact ⟨(y129),((⟨#[]⟩:ByteArray)),(wrap64 (x5_1+1)),qz5,qz5,H',⟨by have:=HK1.out;omega⟩,⟨Kd.Rp HO131.out⟩,⟨qz1⟩⟩
      ·rw [if_neg c8] at H
       exact absurd H (by simp)
     ·rw [if_neg c7] at H
      have c7b0:((bt a0 x5_1) == 32)=false:=beq_eq_false_iff_ne.mpr c7;have c7b1:((bt a0 x5_1) != 32)=true:=bne_iff_ne.mpr c7;have c10b0:=eq_true (of_decide_eq_true qz4:0≤x5_1);by_cases c11:x5_1≤(wrap64 (x5_1+1))
      ·rw [if_pos c11] at H
       have c11b0:=eq_true c11;have c11b1:decide (x5_1≤(wrap64 (x5_1+1)))=true:=decide_eq_true c11;by_cases c12:(wrap64 (x5_1+1))≤(a0.size:Int)
       ·rw [if_pos c12] at H
        have c12b0:=eq_true c12;have c12b1:decide ((wrap64 (x5_1+1))≤(a0.size:Int))=true:=decide_eq_true c12;by_cases c13:x4_1.size+(a0.extract (x5_1:Int).toNat ((wrap64 (x5_1+1)):Int).toNat).size≤9223372036854775807
        ·rw [if_pos c13] at H
         have c13b0:=eq_true c13;have c13b1:decide (x4_1.size+(a0.extract (x5_1:Int).toNat ((wrap64 (x5_1+1)):Int).toNat).size≤9223372036854775807)=true:=decide_eq_true c13;(try have c13b2:(9223372036854775807<x4_1.size+(a0.extract (x5_1:Int).toNat ((wrap64 (x5_1+1)):Int).toNat).size)=False:=eq_false (Nat.not_lt.2 c13));have H':=Aside0.mk H;clear H;have p6:0≤(x5_1:Int):=of_decide_eq_true qz4;have q6:x5_1<(a0.size:Int):=of_decide_eq_true qz4;have hx6:=bt_at a0 x5_1;replace p6:=eq_true p6;replace q6:=eq_true q6;go_wp2;go_roundg k1
         case measure=>have:=HK1.out;omega
         case rel=>exact ⟨(x3_1),(x4_1++(a0.extract (x5_1:Int).toNat ((wrap64 (x5_1+1)):Int).toNat)),(wrap64 (x5_1+1)),qz5,qz5,H',⟨by have:=HK1.out;omega⟩,⟨Kd.Rp HO_3.out⟩,⟨qz1⟩⟩
        ·rw [if_neg c13] at H
         exact absurd H (by simp)
       ·rw [if_neg c12] at H
        exact absurd H (by simp)
      ·rw [if_neg c11] at H
       exact absurd H (by simp)
    ·rw [if_neg c5] at H
     exact absurd H (by simp)
   ·rw [if_neg c4] at H
    have c4b0:decide (x5_1<(a0.size:Int))=false:=decide_eq_false c4;clear c4;by_cases c14:x3_1.length<8796093022208
    ·rw [if_pos c14] at H
     have LMc14:=Aside0.mk c14;clear c14;obtain ⟨y126,hy126⟩:∃ y_:List ByteArray,y_=(x3_1++[x4_1]):=⟨_,rfl⟩;replace H:(some y126)=some r:=by first|(rw [hy126];exact H)|exact H
     have Ny126:=Aside0.mk hy126;clear hy126;obtain rfl:=Option.some.inj H
     go_wp2_with (first|((with_reducible refine gate_builtin (b:=.append) (xs:=#[.tmp 28,.tmp 30]) rfl ?_);at_builtin;refine Kd.R_append Kd.string (w0:=w) w.heap.size rfl (.tmp 28) (.tmp 30) 44 9 (.string ⟨#[]⟩) 16 rfl Tryz.underlying44 info9 rfl (by decide) (by omega) u3 x3_1 x4_1 [.string x4_1] (fun _=>True) (fun _=>False) rfl rfl ?aP (fun _ hk=>hk.elim) ?aF ?aO ?aB ?aS ?aL ?_;(case aP=>exact rfl);(case aB=>exact qz3);(case aF=>exact (fun _ _=>trivial));(case aO=>exact (Kd.Rp HO_3.out));(case aS=>exact (below_size qz3));(case aL=>have:=LMc14.out;omega);intro v127 w15 ho hb hg hat;rw [← Ny126.out] at ho;have n_:=as2 (hb) (ho);clear HB HO_3;obtain ⟨HB,HO128⟩:=n_;clear ho hb hg hat))
     go_ret;exact ⟨_,qz2,by (with_reducible repeat (first|apply Kd.R_alloc|apply Kd.R_drewN|apply Kd.R_drew));exact HO128.out,qz1⟩
    ·rw [if_neg c14] at H
     exact absurd H (by simp)

/-! ### spec_l1Plain: function 91 -/
def spec_l1Plain.l0:Nat→Int→ByteArray→Option (ByteArray)
 | 0,_,_=>none
 | k+1,x0,x3=>if x0 > 9 then ((some (([(wrap64 (48+(Int.tmod x0 10))) % 256]:List Int):List Int)).bind fun y132=>(if (strOfNums y132).size+x3.size≤9223372036854775807 then (spec_l1Plain.l0 k (wrap64 (Int.tdiv x0 10)) ((strOfNums y132)++x3)) else (none))) else ((some (([(wrap64 (48+x0)) % 256]:List Int):List Int)).bind fun y135=>(if (strOfNums y135).size+x3.size≤9223372036854775807 then (some ((strOfNums y135)++x3)) else (none)))
def spec_l1Plain.f (k:Nat) (a0:Int):Option (ByteArray):=spec_l1Plain.l0 k a0 (⟨#[]⟩:ByteArray)
set_option maxHeartbeats 8000000 in
set_option maxRecDepth 100000 in
theorem spec_l1Plain.calls (k:Nat) (a0:Int) (r:ByteArray) (w:World) (h:spec_l1Plain.f k a0=some r) :
  Calls Tryz.prog 91 #[.int .i64 a0] w fun e w'=>e = .returned (.string r)∧Below w.heap.size w w':=by
 have HB:=Aside0.mk (Below.refl w.heap.size w);have H:(spec_l1Plain.l0 k a0 (⟨#[]⟩:ByteArray))=some r:=h;clear h;have H':=Aside0.mk H;clear H;go_enter Tryz.func91,Tryz.ntmps91;go_wp2
 go_loopg [0,3] k (fun kq v0 v3 w'=>∃ (x0_1:Int) (x3_1:ByteArray),v0 = .int .i64 x0_1∧v3 = .string x3_1∧Aside0 (spec_l1Plain.l0 kq x0_1 x3_1=some r)∧Aside0 (kq≤k)∧Aside0 (Below w.heap.size w w'))
 case atStart=>exact ⟨(a0),((⟨#[]⟩:ByteArray)),qz5,qz5,H',⟨Nat.le_refl _⟩,⟨qz1⟩⟩
 case round=>
  clear H';obtain ⟨x0_1,x3_1,rfl,rfl,HA,HK1,HB⟩:=hrel;cases gk with
  | zero=>exact absurd HA.out (by simp [spec_l1Plain.l0])
  | succ k1=>
   have H:=HA.out;clear HA;simp only [spec_l1Plain.l0] at H;by_cases c2:x0_1 > 9
   ·rw [if_pos c2] at H
    have c2b0:decide (9<x0_1)=true:=decide_eq_true c2;clear c2;obtain ⟨y132,hy132⟩:∃ y_:List Int,y_=(([(wrap64 (48+(Int.tmod x0_1 10))) % 256]:List Int)):=⟨_,rfl⟩;replace H:(if (strOfNums y132).size+x3_1.size≤9223372036854775807 then (spec_l1Plain.l0 k1 (wrap64 (Int.tdiv x0_1 10)) ((strOfNums y132)++x3_1)) else (none))=some r:=by first|(rw [hy132];exact H)|exact H
    have Ny132:=Aside0.mk hy132;clear hy132;by_cases c3:(strOfNums y132).size+x3_1.size≤9223372036854775807
    ·rw [if_pos c3] at H
     have c3b0:=eq_true c3;have c3b1:decide ((strOfNums y132).size+x3_1.size≤9223372036854775807)=true:=decide_eq_true c3;(try have c3b2:(9223372036854775807<(strOfNums y132).size+x3_1.size)=False:=eq_false (Nat.not_lt.2 c3));have H':=Aside0.mk H;clear H
     go_wp2_with (first|((with_reducible refine gate_dst (N:=10) rfl ?_);refine Kd.R_lit (Kd.int .u8) _ 5 ?hg (N:=10) ?hd (xs:=([(wrap64 (48+(Int.tmod x0_1 10))) % 256]:List Int)) (inner:=[.int .u8 ((wrap64 (48+(Int.tmod x0_1 10))) % 256)]) (ok:=fun _=>True) (okp:=fun _=>True) ?hr ?hp (fun _ hk=>hk) trivial (Below.refl _ _) (Nat.le_refl _) (by simp) ?_;(case hd=>rfl);(case hg=>rfl);(case hr=>first|(go_simp;done)|(go_simp;rfl));(case hp=>exact (Reps.one (show Kd.M (Kd.int .u8) _ _ _ ((wrap64 (48+(Int.tmod x0_1 10))) % 256) [.int .u8 ((wrap64 (48+(Int.tmod x0_1 10))) % 256)] from rfl) (Reps.none _ _)));intro v133 w4 ho5 hb hg_ hnew_;clear hg_ hnew_;(first|rw [← Ny132.out] at ho5|(simp only [Int.reduceToNat] at ho5;rw [← Ny132.out] at ho5));have n_:=as2 (Kd.R_lower ho5 (below_size qz3)) (below_step qz3 hb);clear HB;obtain ⟨HO134,HB⟩:=n_;clear hb ho5;have hcv6:=own_string (P:=Tryz.prog) Tryz.underlying30 Tryz.underlying5 Tryz.underlying9 (Kd.own_of_R HO134.out)))
     go_roundg k1
     case measure=>have:=HK1.out;omega
     case rel=>exact ⟨(wrap64 (Int.tdiv x0_1 10)),((strOfNums y132)++x3_1),qz5,qz5,H',⟨by have:=HK1.out;omega⟩,⟨qz1⟩⟩
    ·rw [if_neg c3] at H
     exact absurd H (by simp)
   ·rw [if_neg c2] at H
    have c2b0:decide (9<x0_1)=false:=decide_eq_false c2;clear c2;obtain ⟨y135,hy135⟩:∃ y_:List Int,y_=(([(wrap64 (48+x0_1)) % 256]:List Int)):=⟨_,rfl⟩;replace H:(if (strOfNums y135).size+x3_1.size≤9223372036854775807 then (some ((strOfNums y135)++x3_1)) else (none))=some r:=by first|(rw [hy135];exact H)|exact H
    have Ny135:=Aside0.mk hy135;clear hy135;by_cases c7:(strOfNums y135).size+x3_1.size≤9223372036854775807
    ·rw [if_pos c7] at H
     have c7b0:=eq_true c7;have c7b1:decide ((strOfNums y135).size+x3_1.size≤9223372036854775807)=true:=decide_eq_true c7;(try have c7b2:(9223372036854775807<(strOfNums y135).size+x3_1.size)=False:=eq_false (Nat.not_lt.2 c7));obtain rfl:=Option.some.inj H
     go_wp2_with (first|((with_reducible refine gate_dst (N:=19) rfl ?_);refine Kd.R_lit (Kd.int .u8) _ 5 ?hg (N:=19) ?hd (xs:=([(wrap64 (48+x0_1)) % 256]:List Int)) (inner:=[.int .u8 ((wrap64 (48+x0_1)) % 256)]) (ok:=fun _=>True) (okp:=fun _=>True) ?hr ?hp (fun _ hk=>hk) trivial (Below.refl _ _) (Nat.le_refl _) (by simp) ?_;(case hd=>rfl);(case hg=>rfl);(case hr=>first|(go_simp;done)|(go_simp;rfl));(case hp=>exact (Reps.one (show Kd.M (Kd.int .u8) _ _ _ ((wrap64 (48+x0_1)) % 256) [.int .u8 ((wrap64 (48+x0_1)) % 256)] from rfl) (Reps.none _ _)));intro v136 w8 ho9 hb hg_ hnew_;clear hg_ hnew_;(first|rw [← Ny135.out] at ho9|(simp only [Int.reduceToNat] at ho9;rw [← Ny135.out] at ho9));have n_:=as2 (Kd.R_lower ho9 (below_size qz3)) (below_step qz3 hb);clear HB;obtain ⟨HO137,HB⟩:=n_;clear hb ho9;have hcv10:=own_string (P:=Tryz.prog) Tryz.underlying30 Tryz.underlying5 Tryz.underlying9 (Kd.own_of_R HO137.out)))
     go_ret;exact ⟨qz2,qz1⟩
    ·rw [if_neg c7] at H
     exact absurd H (by simp)

/-! ### spec_l1Word: function 63 -/
def spec_l1Word.f (k:Nat) (a0_0:Int) (a0_1:Int) (a0_2:ByteArray):Option (ByteArray):=if a0_0=1 then ((spec_l1Plain.f k a0_1).bind fun t139=>(if 1+t139.size≤9223372036854775807 then (some ((⟨#[88]⟩:ByteArray)++t139)) else (none))) else (if a0_0=2 then (if a0_1<0 then ((spec_l1Plain.f k (wrap64 (-a0_1))).bind fun t140=>(if 1+t140.size≤9223372036854775807 then (some ((⟨#[45]⟩:ByteArray)++t140)) else (none))) else ((spec_l1Plain.f k a0_1).bind fun t141=>(some t141))) else (some a0_2))
set_option maxHeartbeats 8000000 in
set_option maxRecDepth 100000 in
theorem spec_l1Word.calls (k:Nat) (a0_0:Int) (a0_1:Int) (a0_2:ByteArray) (r:ByteArray) (w:World) (h:spec_l1Word.f k a0_0 a0_1 a0_2=some r) :
  Calls Tryz.prog 63 #[.agg #[.int .i64 a0_0,.int .i64 a0_1,.string a0_2]] w fun e w'=>e = .returned (.string r)∧Below w.heap.size w w':=by
 have hu63:=Tryz.underlying63;have HB:=Aside0.mk (Below.refl w.heap.size w);have H:(if a0_0=1 then ((spec_l1Plain.f k a0_1).bind fun t139=>(if 1+t139.size≤9223372036854775807 then (some ((⟨#[88]⟩:ByteArray)++t139)) else (none))) else (if a0_0=2 then (if a0_1<0 then ((spec_l1Plain.f k (wrap64 (-a0_1))).bind fun t140=>(if 1+t140.size≤9223372036854775807 then (some ((⟨#[45]⟩:ByteArray)++t140)) else (none))) else ((spec_l1Plain.f k a0_1).bind fun t141=>(some t141))) else (some a0_2)))=some r:=h;clear h;have HC2:=Aside0.mk H;clear H;go_enter Tryz.func63,Tryz.ntmps63;go_upto_if 5 with (first|((with_reducible refine gate_dst (N:=1) rfl ?_);refine box_event ?hg (N:=1) ?hd (cs:=#[.int .i64 a0_0,.int .i64 a0_1,.string a0_2]) (t:=63) ?hr ?_;(case hd=>rfl);(case hg=>rfl);(case hr=>first|(go_simp;done)|(go_simp;rfl));intro gb138 hg w3 hbox hb;have n_:=as3 (below_step qz3 hb) (hbox) ((by rw [hg];exact (below_size qz3):w.heap.size≤gb138));clear HB;obtain ⟨HB,BK138,GE138⟩:=n_;clear hb hbox hg;obtain ⟨hcz4_0,hcz4_1,hcz4_2,hfz4_0,hfz4_1,hfz4_2⟩:=blk3 BK138.out))
 (try simp only [Act.put,sA_,sZ_,sS_]);have H:=HC2.out;clear HC2;by_cases c5:a0_0=1
 ·rw [if_pos c5] at H
  have c5b0:(a0_0 == 1)=true:=beq_iff_eq.mpr c5;have c5b1:(a0_0 != 1)=false:=bne_eq_false_iff_eq.mpr c5;clear c5;(first|rw [c5b0]|rw [c5b1]|(simp only [i64_w,i32_w];rw [c5b0])|skip);replace H:=Option.bind_eq_some_iff.mp H;obtain ⟨t139,A60,H⟩:=H;(try dsimp only at H);have A6:=Aside0.mk A60;clear A60;by_cases c7:1+t139.size≤9223372036854775807
  ·rw [if_pos c7] at H
   have c7b0:=eq_true c7;have c7b1:decide (1+t139.size≤9223372036854775807)=true:=decide_eq_true c7;(try have c7b2:(9223372036854775807<1+t139.size)=False:=eq_false (Nat.not_lt.2 c7));obtain rfl:=Option.some.inj H;obtain ⟨hcz8_0,hcz8_1,hcz8_2,hfz8_0,hfz8_1,hfz8_2⟩:=blk3 BK138.out
   go_wp2_with (first|(go_at_call 91;(with_reducible refine (spec_l1Plain.calls k a0_1 t139 _ A6.out).mono ?_);rintro e w9 ⟨rfl,hb⟩;have n_:=as2 (blk_below (blkp BK138.out) hb) (below_step qz32 hb);clear BK138 HB;obtain ⟨BK138,HB⟩:=n_;clear hb))
   go_ret;exact ⟨qz2,qz32⟩
  ·rw [if_neg c7] at H
   exact absurd H (by simp)
 ·rw [if_neg c5] at H
  have c5b0:(a0_0 == 1)=false:=beq_eq_false_iff_ne.mpr c5;have c5b1:(a0_0 != 1)=true:=bne_iff_ne.mpr c5;(first|rw [c5b0]|rw [c5b1]|(simp only [i64_w,i32_w];rw [c5b0])|skip);by_cases c10:a0_0=2
  ·rw [if_pos c10] at H
   have c10b0:(a0_0 == 2)=true:=beq_iff_eq.mpr c10;have c10b1:(a0_0 != 2)=false:=bne_eq_false_iff_eq.mpr c10;clear c10;by_cases c11:a0_1<0
   ·rw [if_pos c11] at H
    have c11b0:decide (a0_1<0)=true:=decide_eq_true c11;clear c11;replace H:=Option.bind_eq_some_iff.mp H;obtain ⟨t140,A120,H⟩:=H;(try dsimp only at H);have A12:=Aside0.mk A120;clear A120;by_cases c13:1+t140.size≤9223372036854775807
    ·rw [if_pos c13] at H
     have c13b0:=eq_true c13;have c13b1:decide (1+t140.size≤9223372036854775807)=true:=decide_eq_true c13;(try have c13b2:(9223372036854775807<1+t140.size)=False:=eq_false (Nat.not_lt.2 c13));obtain rfl:=Option.some.inj H;obtain ⟨hcz14_0,hcz14_1,hcz14_2,hfz14_0,hfz14_1,hfz14_2⟩:=blk3 BK138.out
     go_wp2_with (first|(go_at_call 91;(with_reducible refine (spec_l1Plain.calls k (wrap64 (-a0_1)) t140 _ A12.out).mono ?_);rintro e w15 ⟨rfl,hb⟩;have n_:=as2 (blk_below (blkp BK138.out) hb) (below_step qz32 hb);clear BK138 HB;obtain ⟨BK138,HB⟩:=n_;clear hb))
     go_ret;exact ⟨qz2,qz32⟩
    ·rw [if_neg c13] at H
     exact absurd H (by simp)
   ·rw [if_neg c11] at H
    have c11b0:decide (a0_1<0)=false:=decide_eq_false c11;clear c11;replace H:=Option.bind_eq_some_iff.mp H;obtain ⟨t141,A160,H⟩:=H;(try dsimp only at H);have A16:=Aside0.mk A160;clear A160;obtain rfl:=Option.some.inj H;obtain ⟨hcz17_0,hcz17_1,hcz17_2,hfz17_0,hfz17_1,hfz17_2⟩:=blk3 BK138.out
    go_wp2_with (first|(go_at_call 91;(with_reducible refine (spec_l1Plain.calls k a0_1 t141 _ A16.out).mono ?_);rintro e w18 ⟨rfl,hb⟩;have n_:=as2 (blk_below (blkp BK138.out) hb) (below_step qz32 hb);clear BK138 HB;obtain ⟨BK138,HB⟩:=n_;clear hb))
    go_ret;exact ⟨qz2,qz32⟩
  ·rw [if_neg c10] at H
   have c10b0:(a0_0 == 2)=false:=beq_eq_false_iff_ne.mpr c10;have c10b1:(a0_0 != 2)=true:=bne_iff_ne.mpr c10;obtain rfl:=Option.some.inj H;obtain ⟨hcz19_0,hcz19_1,hcz19_2,hfz19_0,hfz19_1,hfz19_2⟩:=blk3 BK138.out;go_wp2;go_ret;exact ⟨qz2,qz32⟩

/-! ### spec_TrmText: function 36 -/
mutual
def spec_TrmText.l0:Nat→List (S63)→ByteArray→List Int→Int→Option (ByteArray)
 | 0,_,_,_,_=>none
 | k+1,x0,x3,x4,x5=>if x5<(x0.length:Int) then (if 0≤x5 then ((spec_l1Word.f k ((rd_T63 x0 x5).f0) ((rd_T63 x0 x5).f1) ((rd_T63 x0 x5).f2)).bind fun t147=>(if x3.size+t147.size≤9223372036854775807 then (if ((rd_T63 x0 x5).f0)=3 then (spec_TrmText.j1 k x0 (x3++t147) x4 x5 (decide (((rd_T63 x0 x5).f1) > 0))) else (spec_TrmText.j1 k x0 (x3++t147) x4 x5 false)) else (none))) else (none)) else (some x3)
def spec_TrmText.j1:Nat→List (S63)→ByteArray→List Int→Int→Bool→Option (ByteArray)
 | 0,_,_,_,_,_=>none
 | k+1,x0,x3,x4,x5,x36=>if x36=true then (if x3.size+1≤9223372036854775807 then (if 0≤x5 then (if x5<(x0.length:Int) then (if x4.length<17592186044416 then (spec_TrmText.l0 k x0 (x3++(⟨#[40]⟩:ByteArray)) (x4++[(rd_T63 x0 x5).f1]) (wrap64 (x5+1))) else (none)) else (none)) else (none)) else (none)) else (spec_TrmText.l1 k x0 x3 x4 x5)
def spec_TrmText.l1:Nat→List (S63)→ByteArray→List Int→Int→Option (ByteArray)
 | 0,_,_,_,_=>none
 | k+1,x0,x3,x4,x5=>if (x4.length:Int) > 0 then (if 0≤(wrap64 ((x4.length:Int) - 1)) then (if (wrap64 ((x4.length:Int) - 1))<(x4.length:Int) then (if (rd x4 (wrap64 ((x4.length:Int) - 1)))=1 then (if x3.size+1≤9223372036854775807 then (if (wrap64 ((x4.length:Int) - 1))≤(x4.length:Int) then (spec_TrmText.l1 k x0 (x3++(⟨#[41]⟩:ByteArray)) (x4.take ((wrap64 ((x4.length:Int) - 1)):Int).toNat) x5) else (none)) else (none)) else (if x3.size+1≤9223372036854775807 then (spec_TrmText.l0 k x0 (x3++(⟨#[44]⟩:ByteArray)) (x4.set ((wrap64 ((x4.length:Int) - 1)):Int).toNat (wrap64 ((rd x4 (wrap64 ((x4.length:Int) - 1))) - 1))) (wrap64 (x5+1))) else (none))) else (none)) else (none)) else (spec_TrmText.l0 k x0 x3 x4 (wrap64 (x5+1)))
end
def spec_TrmText.f (k:Nat) (l0:List (S63)):Option (ByteArray):=(spec_TrmOk.f k l0).bind fun t142=>(if t142=true then (spec_TrmText.l0 k l0 (⟨#[]⟩:ByteArray) (([]:List Int)) 0) else (some (⟨#[]⟩:ByteArray)))
set_option maxHeartbeats 8000000 in
set_option maxRecDepth 100000 in
theorem spec_TrmText.calls (k:Nat) (A0:Option Addr) (c0:Nat) (l0:List (S63)) (r:ByteArray) (w:World) (hr0:Kd.C k63 w A0 l0.length l0) (hc0:l0.length≤c0) (h:spec_TrmText.f k l0=some r) :
  Calls Tryz.prog 36 #[.slice A0 l0.length c0] w fun e w'=>e = .returned (.string r)∧Below w.heap.size w w':=by
 have hu63:=Tryz.underlying63;have HR0:=Aside0.mk hr0;have HC0:=Aside0.mk hc0;clear hr0 hc0;have HB:=Aside0.mk (Below.refl w.heap.size w);have H:((spec_TrmOk.f k l0).bind fun t142=>(if t142=true then (spec_TrmText.l0 k l0 (⟨#[]⟩:ByteArray) (([]:List Int)) 0) else (some (⟨#[]⟩:ByteArray))))=some r:=h;clear h;replace H:=Option.bind_eq_some_iff.mp H;obtain ⟨t142,A20,H⟩:=H;(try dsimp only at H);have A2:=Aside0.mk A20;clear A20;have HC3:=Aside0.mk H;clear H;go_enter Tryz.func36,Tryz.ntmps36;go_upto_if 8 with (first|(go_at_call 62;(with_reducible refine (spec_TrmOk.calls k _ _ l0 t142 _ ?side1 ?side2 A2.out).mono ?_);(case side1=>exact qz42);(case side2=>exact HC0.out);rintro e w4 ⟨rfl,hb⟩;have n0_:=Aside0.mk (below_step qz3 hb);clear HB;have HB:=n0_;clear n0_ hb))
 (try simp only [Act.put,sA_,sZ_,sS_]);have H:=HC3.out;clear HC3;by_cases c5:t142=true
 ·subst c5
  have H1:(spec_TrmText.l0 k l0 (⟨#[]⟩:ByteArray) (([]:List Int)) 0)=some r:=qz26;clear H;have H:=H1;clear H1;obtain ⟨y143,hy143⟩:∃ y_:List Int,y_=(([]:List Int)):=⟨_,rfl⟩;replace H:(spec_TrmText.l0 k l0 (⟨#[]⟩:ByteArray) y143 0)=some r:=by first|(rw [hy143];exact H)|exact H
  have Ny143:=Aside0.mk hy143;clear hy143;have H':=Aside0.mk H;clear H
  go_wp2_with (first|((with_reducible refine gate_dst (N:=9) rfl ?_);(try (refine gate_guard (by rfl) ?_;dsimp only));refine Kd.R_lit (Kd.int .i64) _ 3 ?hg (N:=9) ?hd (xs:=([]:List Int)) (inner:=[]) (ok:=fun _=>True) (okp:=fun _=>True) ?hr ?hp (fun _ hk=>hk) trivial (Below.refl _ _) (Nat.le_refl _) (by simp) ?_;(case hd=>rfl);(case hg=>rfl);(case hr=>first|(go_simp;done)|(go_simp;rfl));(case hp=>exact (Reps.none _ _));intro v144 w6 ho7 hb hg_ hnew_;clear hg_ hnew_;(first|rw [← Ny143.out] at ho7|(simp only [Int.reduceToNat] at ho7;rw [← Ny143.out] at ho7));have n_:=as2 (Kd.R_lower ho7 (below_size qz3)) (below_step qz3 hb);clear HB;obtain ⟨HO145,HB⟩:=n_;clear hb ho7))
  go_loopg [3,4,5] k (fun kq v3 v4 v5 w'=>∃ (x3_1:ByteArray) (x4_1:List Int) (x5_1:Int),v3 = .string x3_1∧v5 = .int .i64 x5_1∧Aside0 (spec_TrmText.l0 kq l0 x3_1 x4_1 x5_1=some r)∧Aside0 (kq≤k)∧Aside0 (Kd.R (Kd.int .i64) 3 w' w.heap.size (fun _=>True) v4 x4_1)∧Aside0 (Below w.heap.size w w'))
  case atStart=>exact ⟨((⟨#[]⟩:ByteArray)),(y143),(0),qz5,qz5,H',⟨Nat.le_refl _⟩,⟨Kd.Rp HO145.out⟩,⟨qz1⟩⟩
  case round=>
   clear H';(try clear c5);obtain ⟨x3_1,x4_1,x5_1,rfl,rfl,HA,HK1,HO_4,HB⟩:=hrel;cases gk with
   | zero=>exact absurd HA.out (by simp [spec_TrmText.l0])
   | succ k1=>
    have H:=HA.out;clear HA;simp only [spec_TrmText.l0] at H;by_cases c8:x5_1<(l0.length:Int)
    ·rw [if_pos c8] at H
     have c8b0:decide (x5_1<(l0.length:Int))=true:=decide_eq_true c8;clear c8;(first|rw [c8b0]|rw [c8b1]|(simp only [i64_w,i32_w];rw [c8b0])|skip);by_cases c9:0≤x5_1
     ·rw [if_pos c9] at H
      have c9b0:decide (0≤x5_1)=true:=decide_eq_true c9;clear c9;replace H:=Option.bind_eq_some_iff.mp H;obtain ⟨t147,A100,H⟩:=H;(try dsimp only at H);have A10:=Aside0.mk A100;clear A100;by_cases c11:x3_1.size+t147.size≤9223372036854775807
      ·rw [if_pos c11] at H
       have c11b0:=eq_true c11;have c11b1:decide (x3_1.size+t147.size≤9223372036854775807)=true:=decide_eq_true c11;(try have c11b2:(9223372036854775807<x3_1.size+t147.size)=False:=eq_false (Nat.not_lt.2 c11));have HC12:=Aside0.mk H;clear H;have p146:0≤(x5_1:Int):=of_decide_eq_true qz4;have q146:x5_1<(l0.length:Int):=of_decide_eq_true qz4;obtain ⟨ad146,e146,hx146_0,hx146_1,hx146_2⟩:=at_T63 HR0.out x5_1 p146 q146;cases e146
       replace hx146_0:=(HB.out.cell (World.block_lt_of_cell? w _ hx146_0)).trans hx146_0;replace hx146_1:=(HB.out.cell (World.block_lt_of_cell? w _ hx146_1)).trans hx146_1;replace hx146_2:=(HB.out.cell (World.block_lt_of_cell? w _ hx146_2)).trans hx146_2;replace p146:=eq_true p146;replace q146:=eq_true q146;go_upto_region 9 with (first|(go_at_call 63;(with_reducible refine (spec_l1Word.calls k1 ((rd_T63 l0 x5_1).f0) ((rd_T63 l0 x5_1).f1) ((rd_T63 l0 x5_1).f2) t147 _ A10.out).mono ?_);rintro e w13 ⟨rfl,hb⟩;have n_:=as2 (Kd.R_below (Kd.Rp HO_4.out) hb) (below_step qz3 hb);clear HO_4 HB;obtain ⟨HO_4,HB⟩:=n_;clear hb))
       (try simp only [Act.put,sA_,sZ_,sS_]);go_cut [36] (fun v36 wc=>∃ (kq:Nat) (x36_11:Bool),v36 = .bool x36_11∧Aside0 (spec_TrmText.j1 kq l0 (x3_1++t147) x4_1 x5_1 x36_11=some r)∧Aside0 (kq≤k1)∧Aside0 (Kd.R (Kd.int .i64) 3 wc w.heap.size (fun _=>True) u4 x4_1)∧Aside0 (Below w.heap.size w wc))
       case first=>
        have H:=HC12.out;clear HC12;by_cases c14:((rd_T63 l0 x5_1).f0)=3
        ·rw [if_pos c14] at H
         have c14b0:(((rd_T63 l0 x5_1).f0) == 3)=true:=beq_iff_eq.mpr c14;have c14b1:(((rd_T63 l0 x5_1).f0) != 3)=false:=bne_eq_false_iff_eq.mpr c14;clear c14;(first|rw [c14b0]|rw [c14b1]|(simp only [i64_w,i32_w];rw [c14b0])|skip);have H':=Aside0.mk H;clear H;have p148:0≤(x5_1:Int):=of_decide_eq_true qz4;have q148:x5_1<(l0.length:Int):=of_decide_eq_true qz4;obtain ⟨ad148,e148,hx148_0,hx148_1,hx148_2⟩:=at_T63 HR0.out x5_1 p148 q148;obtain rfl:ad146=ad148:=(by injection e148);replace hx148_0:=(HB.out.cell (World.block_lt_of_cell? w _ hx148_0)).trans hx148_0;replace hx148_1:=(HB.out.cell (World.block_lt_of_cell? w _ hx148_1)).trans hx148_1;replace hx148_2:=(HB.out.cell (World.block_lt_of_cell? w _ hx148_2)).trans hx148_2;replace p148:=eq_true p148;replace q148:=eq_true q148;have p149:0≤(x5_1:Int):=of_decide_eq_true qz4;have q149:x5_1<(l0.length:Int):=of_decide_eq_true qz4;obtain ⟨ad149,e149,hx149_0,hx149_1,hx149_2⟩:=at_T63 HR0.out x5_1 p149 q149;obtain rfl:ad146=ad149:=(by injection e149);replace hx149_0:=(HB.out.cell (World.block_lt_of_cell? w _ hx149_0)).trans hx149_0;replace hx149_1:=(HB.out.cell (World.block_lt_of_cell? w _ hx149_1)).trans hx149_1;replace hx149_2:=(HB.out.cell (World.block_lt_of_cell? w _ hx149_2)).trans hx149_2;replace p149:=eq_true p149;replace q149:=eq_true q149;go_wp2;go_meet
         case rel=>exact ⟨_,(decide (((rd_T63 l0 x5_1).f1) > 0)),qz5,H',⟨qz45⟩,⟨Kd.Rp HO_4.out⟩,⟨qz1⟩⟩
        ·rw [if_neg c14] at H
         have c14b0:(((rd_T63 l0 x5_1).f0) == 3)=false:=beq_eq_false_iff_ne.mpr c14;have c14b1:(((rd_T63 l0 x5_1).f0) != 3)=true:=bne_iff_ne.mpr c14;(first|rw [c14b0]|rw [c14b1]|(simp only [i64_w,i32_w];rw [c14b0])|skip);have H':=Aside0.mk H;clear H;have p148:0≤(x5_1:Int):=of_decide_eq_true qz4;have q148:x5_1<(l0.length:Int):=of_decide_eq_true qz4;obtain ⟨ad148,e148,hx148_0,hx148_1,hx148_2⟩:=at_T63 HR0.out x5_1 p148 q148;obtain rfl:ad146=ad148:=(by injection e148);replace hx148_0:=(HB.out.cell (World.block_lt_of_cell? w _ hx148_0)).trans hx148_0;replace hx148_1:=(HB.out.cell (World.block_lt_of_cell? w _ hx148_1)).trans hx148_1;replace hx148_2:=(HB.out.cell (World.block_lt_of_cell? w _ hx148_2)).trans hx148_2;replace p148:=eq_true p148;replace q148:=eq_true q148;go_wp2;go_meet
         case rel=>exact ⟨_,(false),qz5,H',⟨qz45⟩,⟨Kd.Rp HO_4.out⟩,⟨qz1⟩⟩
       case rest=>
        clear HC12;(try clear c5);(try clear c8);(try clear c8b0);(try clear c9);(try clear c9b0);(try clear c11);(try clear c11b0);(try clear c11b1);(try clear c11b2);(try clear hx146_0);(try clear hx146_1);(try clear hx146_2);(try clear p146);(try clear q146);obtain ⟨kq,x36_11,rfl,HA,HJ11,HO_4,HB⟩:=hcut;cases kq with
        | zero=>exact absurd HA.out (by simp [spec_TrmText.j1])
        | succ kj11=>
         have H:=HA.out;clear HA;simp only [spec_TrmText.j1] at H;by_cases c15:x36_11=true
         ·subst c15
          have H1:(if (x3_1++t147).size+1≤9223372036854775807 then (if 0≤x5_1 then (if x5_1<(l0.length:Int) then (if x4_1.length<17592186044416 then (spec_TrmText.l0 kj11 l0 ((x3_1++t147)++(⟨#[40]⟩:ByteArray)) (x4_1++[(rd_T63 l0 x5_1).f1]) (wrap64 (x5_1+1))) else (none)) else (none)) else (none)) else (none))=some r:=qz26;clear H;have H:=H1;clear H1;by_cases c16:(x3_1++t147).size+1≤9223372036854775807
          ·rw [if_pos c16] at H
           have c16b0:=eq_true c16;have c16b1:decide ((x3_1++t147).size+1≤9223372036854775807)=true:=decide_eq_true c16;(try (have c16b1s:=c16b1;simp only [ByteArray.size_append] at c16b1s));(try have c16b2:(9223372036854775807<(x3_1++t147).size+1)=False:=eq_false (Nat.not_lt.2 c16));(try (have c16b2s:=c16b2;simp only [ByteArray.size_append] at c16b2s));by_cases c17:0≤x5_1
           ·rw [if_pos c17] at H
            have c17b0:decide (0≤x5_1)=true:=decide_eq_true c17;clear c17;by_cases c18:x5_1<(l0.length:Int)
            ·rw [if_pos c18] at H
             have c18b0:decide (x5_1<(l0.length:Int))=true:=decide_eq_true c18;clear c18;by_cases c19:x4_1.length<17592186044416
             ·rw [if_pos c19] at H
              have LMc19:=Aside0.mk c19;clear c19;obtain ⟨y151,hy151⟩:∃ y_:List Int,y_=(x4_1++[(rd_T63 l0 x5_1).f1]):=⟨_,rfl⟩;replace H:(spec_TrmText.l0 kj11 l0 ((x3_1++t147)++(⟨#[40]⟩:ByteArray)) y151 (wrap64 (x5_1+1)))=some r:=by first|(rw [hy151];exact H)|exact H
              have Ny151:=Aside0.mk hy151;clear hy151;have H':=Aside0.mk H;clear H;have p150:0≤(x5_1:Int):=of_decide_eq_true qz4;have q150:x5_1<(l0.length:Int):=of_decide_eq_true qz4;obtain ⟨ad150,e150,hx150_0,hx150_1,hx150_2⟩:=at_T63 HR0.out x5_1 p150 q150;obtain rfl:ad146=ad150:=(by injection e150);replace hx150_0:=(HB.out.cell (World.block_lt_of_cell? w _ hx150_0)).trans hx150_0;replace hx150_1:=(HB.out.cell (World.block_lt_of_cell? w _ hx150_1)).trans hx150_1;replace hx150_2:=(HB.out.cell (World.block_lt_of_cell? w _ hx150_2)).trans hx150_2;replace p150:=eq_true p150;replace q150:=eq_true q150
              go_wp2_with (first|((with_reducible refine gate_builtin (b:=.append) (xs:=#[.tmp 39,.tmp 45]) rfl ?_);(try (refine gate_guard (by rfl) ?_;dsimp only));at_builtin;refine Kd.R_append (Kd.int .i64) (w0:=w) w.heap.size rfl (.tmp 39) (.tmp 45) 78 3 (.int .i64 0) 8 rfl Tryz.underlying78 info3 rfl (by decide) (by omega) u4 x4_1 ((rd_T63 l0 x5_1).f1) [.int .i64 ((rd_T63 l0 x5_1).f1)] (fun _=>True) (fun _=>False) rfl rfl ?aP (fun _ hk=>hk.elim) ?aF ?aO ?aB ?aS ?aL ?_;(case aP=>exact rfl);(case aB=>exact qz3);(case aF=>exact (fun _ _=>trivial));(case aO=>exact (Kd.Rp HO_4.out));(case aS=>exact (below_size qz3));(case aL=>have:=LMc19.out;omega);intro v152 w20 ho hb hg hat;rw [← Ny151.out] at ho;have n_:=as2 (hb) (ho);clear HB HO_4;obtain ⟨HB,HO153⟩:=n_;clear ho hb hg hat))
              go_roundg kj11
              case measure=>have:=HK1.out;have:=HJ11.out;omega
              case rel=>exact ⟨((x3_1++t147)++(⟨#[40]⟩:ByteArray)),(y151),(wrap64 (x5_1+1)),qz5,qz5,H',⟨by have:=HK1.out;have:=HJ11.out;omega⟩,⟨Kd.Rp HO153.out⟩,⟨qz1⟩⟩
             ·rw [if_neg c19] at H
              exact absurd H (by simp)
            ·rw [if_neg c18] at H
             exact absurd H (by simp)
           ·rw [if_neg c17] at H
            exact absurd H (by simp)
          ·rw [if_neg c16] at H
           exact absurd H (by simp)
         ·replace c15:=Bool.eq_false_iff.mpr c15
          subst c15;have H1:(spec_TrmText.l1 kj11 l0 (x3_1++t147) x4_1 x5_1)=some r:=qz15;clear H;have H:=H1;clear H1;have H':=Aside0.mk H;clear H;go_wp2
          go_loopg [3,4] kj11 (fun kq v3 v4 w'=>∃ (x3_3:ByteArray) (x4_3:List Int),v3 = .string x3_3∧Aside0 (spec_TrmText.l1 kq l0 x3_3 x4_3 x5_1=some r)∧Aside0 (kq≤kj11)∧Aside0 (Kd.R (Kd.int .i64) 3 w' w.heap.size (fun _=>True) v4 x4_3)∧Aside0 (Below w.heap.size w w'))
          case atStart=>exact ⟨((x3_1++t147)),(x4_1),qz5,H',⟨Nat.le_refl _⟩,⟨Kd.Rp HO_4.out⟩,⟨qz1⟩⟩
          case round=>
           clear H';(try clear c5);(try clear c8);(try clear c8b0);(try clear c9);(try clear c9b0);(try clear c11);(try clear c11b0);(try clear c11b1);(try clear c11b2);(try clear c15);(try clear hx146_0);(try clear hx146_1);(try clear hx146_2);(try clear p146);(try clear q146);obtain ⟨x3_3,x4_3,rfl,HA,HK3,HO_4,HB⟩:=hrel;cases gk with
           | zero=>exact absurd HA.out (by simp [spec_TrmText.l1])
           | succ k3=>
            have H:=HA.out;clear HA;simp only [spec_TrmText.l1] at H;by_cases c21:(x4_3.length:Int) > 0
            ·rw [if_pos c21] at H
             have c21b0:decide (0<(x4_3.length:Int))=true:=decide_eq_true c21;have c21b1:decide (0<x4_3.length)=true:=decide_eq_true (by omega);clear c21;obtain ⟨ji22,hji22⟩:∃ j_:Int,(wrap64 ((x4_3.length:Int) - 1))=j_:=⟨_,rfl⟩;replace H:(if 0≤(ji22) then (if (ji22)<(x4_3.length:Int) then (if (rd x4_3 (ji22))=1 then (if x3_3.size+1≤9223372036854775807 then (if (ji22)≤(x4_3.length:Int) then (spec_TrmText.l1 k3 l0 (x3_3++(⟨#[41]⟩:ByteArray)) (x4_3.take ((ji22):Int).toNat) x5_1) else (none)) else (none)) else (if x3_3.size+1≤9223372036854775807 then (spec_TrmText.l0 k3 l0 (x3_3++(⟨#[44]⟩:ByteArray)) (x4_3.set ((ji22):Int).toNat (wrap64 ((rd x4_3 (ji22)) - 1))) (wrap64 (x5_1+1))) else (none))) else (none)) else (none))=some r:=by first|(rw [hji22] at H;exact H)|(simp only [hji22] at H ⊢;exact H)
             have hji22w:(IntKind.i64.wrap ((x4_3.length:Int) - 1))=ji22:=(i64_w _).trans hji22;by_cases c23:0≤(ji22)
             ·rw [if_pos c23] at H
              have c23b0:decide (0≤(ji22))=true:=decide_eq_true c23;clear c23;by_cases c24:(ji22)<(x4_3.length:Int)
              ·rw [if_pos c24] at H
               have c24b0:decide ((ji22)<(x4_3.length:Int))=true:=decide_eq_true c24;clear c24;by_cases c25:(rd x4_3 (ji22))=1
               ·rw [if_pos c25] at H
                have c25b0:((rd x4_3 (ji22)) == 1)=true:=beq_iff_eq.mpr c25;have c25b1:((rd x4_3 (ji22)) != 1)=false:=bne_eq_false_iff_eq.mpr c25;clear c25;by_cases c26:x3_3.size+1≤9223372036854775807
                ·rw [if_pos c26] at H
                 have c26b0:=eq_true c26;have c26b1:decide (x3_3.size+1≤9223372036854775807)=true:=decide_eq_true c26;(try have c26b2:(9223372036854775807<x3_3.size+1)=False:=eq_false (Nat.not_lt.2 c26));by_cases c27:(ji22)≤(x4_3.length:Int)
                 ·rw [if_pos c27] at H
                  have c27b0:=eq_true c27;have c27b1:decide ((ji22)≤(x4_3.length:Int))=true:=decide_eq_true c27;clear c27;obtain ⟨y155,hy155⟩:∃ y_:List Int,y_=(x4_3.take ((ji22):Int).toNat):=⟨_,rfl⟩;replace H:(spec_TrmText.l1 k3 l0 (x3_3++(⟨#[41]⟩:ByteArray)) y155 x5_1)=some r:=by first|(rw [hy155];exact H)|exact H
                  have Ny155:=Aside0.mk hy155;clear hy155;have H':=Aside0.mk H;clear H;obtain ⟨Ao28,co28,eo28⟩:=Kd.R_slice HO_4.out;subst eo28;have p154:0≤((ji22):Int):=of_decide_eq_true qz4;have q154:(ji22)<(x4_3.length:Int):=of_decide_eq_true qz4;obtain ⟨ad154,e154,hx154_0⟩:=Kd.at_int (Kd.R_reads' HO_4.out).2.2 (ji22) p154 q154;cases e154
                  replace p154:=eq_true p154;replace q154:=eq_true q154;have q29:((ji22):Int)≤((x4_3.length:Int):Int):=of_decide_eq_true qz4;obtain ⟨i029,hi029,_,hsz29,_⟩:=info_parts info3;have hcut29:=cut_to (P:=Tryz.prog) 78 3 .i64 Tryz.underlying78 hi029 (some ad154) x4_3.length co28 (ji22) (of_decide_eq_true qz4) q29 (Kd.R_reads' HO_4.out).2.1;have hr29:=Kd.R_take (m:=((ji22):Int).toNat) HO_4.out (by omega);have hy29:y155.length=((ji22):Int).toNat:=(by rw [Ny155.out,List.length_take];omega);rw [← Ny155.out] at hr29;rw [← hy29] at hr29 hcut29;clear hy29 hi029 hsz29 HO_4;have HO157:=Aside0.mk hr29;clear hr29;replace q29:=eq_true q29;go_wp2;go_roundg k3
                  case measure=>have:=HK1.out;have:=HJ11.out;have:=HK3.out;omega
                  case rel=>exact ⟨(x3_3++(⟨#[41]⟩:ByteArray)),(y155),qz5,H',⟨qz75⟩,⟨Kd.Rp HO157.out⟩,⟨qz1⟩⟩
                 ·rw [if_neg c27] at H
                  exact absurd H (by simp)
                ·rw [if_neg c26] at H
                 exact absurd H (by simp)
               ·rw [if_neg c25] at H
                have c25b0:((rd x4_3 (ji22)) == 1)=false:=beq_eq_false_iff_ne.mpr c25;have c25b1:((rd x4_3 (ji22)) != 1)=true:=bne_iff_ne.mpr c25;by_cases c30:x3_3.size+1≤9223372036854775807
                ·rw [if_pos c30] at H
                 have c30b0:=eq_true c30;have c30b1:decide (x3_3.size+1≤9223372036854775807)=true:=decide_eq_true c30;(try have c30b2:(9223372036854775807<x3_3.size+1)=False:=eq_false (Nat.not_lt.2 c30));obtain ⟨y159,hy159⟩:∃ y_:List Int,y_=(x4_3.set ((ji22):Int).toNat (wrap64 ((rd x4_3 (ji22)) - 1))):=⟨_,rfl⟩;replace H:(spec_TrmText.l0 k3 l0 (x3_3++(⟨#[44]⟩:ByteArray)) y159 (wrap64 (x5_1+1)))=some r:=by first|(rw [hy159];exact H)|exact H
                 have Ny159:=Aside0.mk hy159;clear hy159;have H':=Aside0.mk H;clear H;obtain ⟨Ao32,co32,eo32⟩:=Kd.R_slice HO_4.out;subst eo32;have p154:0≤((ji22):Int):=of_decide_eq_true qz4;have q154:(ji22)<(x4_3.length:Int):=of_decide_eq_true qz4;obtain ⟨ad154,e154,hx154_0⟩:=Kd.at_int (Kd.R_reads' HO_4.out).2.2 (ji22) p154 q154;cases e154
                 replace p154:=eq_true p154;replace q154:=eq_true q154;have p158:0≤((ji22):Int):=of_decide_eq_true qz4;have q158:(ji22)<(x4_3.length:Int):=of_decide_eq_true qz4;obtain ⟨ad158,e158,hx158_0⟩:=Kd.at_int (Kd.R_reads' HO_4.out).2.2 (ji22) p158 q158;obtain rfl:ad154=ad158:=(by injection e158);replace p158:=eq_true p158;replace q158:=eq_true q158;have p31:0≤((ji22):Int):=of_decide_eq_true qz4;have q31:((ji22):Int)<((x4_3.length:Int):Int):=of_decide_eq_true qz4;obtain ⟨go31,co31,eo31,gb31,gl31,cl31,HG31⟩:=Kd.R_form HO_4.out (by omega);(first|cases eo31|(injection eo31 with ea_ en_ ec_;(first|subst ea_|(injection ea_ with ea_;subst ea_));subst ec_;clear en_));have GB31:=Aside0.mk gb31;have GG31:=Aside0.mk HG31;clear gb31 gl31 HG31;(first|simp only [add_plain] at hx154_0|skip);(first|simp only [add_plain] at hx158_0|skip);obtain ⟨hx31_0,hf31_0⟩:=Kd.R_celln 0 HO_4.out ((ji22):Int) p31 q31;replace p31:=eq_true p31;replace q31:=eq_true q31;have HP33:=Kd.R_putg HO_4.out ((ji22):Int) (wrap64 ((rd x4_3 (ji22)) - 1))
                 go_wp2_with (first|((with_reducible refine gate_store (t:=3) (p:=82) rfl ?_);refine store_event (t:=3) (p:=82) (v:=?vo_w34) (w1:=(wr.setCell ⟨go31,((ji22):Int).toNat,none⟩ (.int .i64 (wrap64 ((rd x4_3 (ji22)) - 1))))) ?hg ?ho ?hn ?hr ?_;(case ho=>rfl);(case hg=>rfl);(case hn=>rfl);(case hr=>first|(go_simp;done)|(go_simp;rfl));intro w34 hw;have hg:wr.grownBy w34 (some go31):=(by rw [hw];exact HP33.2);have hp_:Kd.R (Kd.int .i64) 3 w34 w.heap.size (fun _=>True) (.slice (some ⟨go31,0,none⟩) x4_3.length co32) y159:=(by rw [hw,Ny159.out];exact HP33.1);clear HP33;have n_:=as2 (hp_) ((by rw [hw];exact below_set (HB.out) GB31.out:Below w.heap.size w w34));clear HO_4 HB;obtain ⟨HO_4,HB⟩:=n_;clear hg hw hp_))
                 go_roundg k3
                 case measure=>have:=HK1.out;have:=HJ11.out;have:=HK3.out;omega
                 case rel=>exact ⟨(x3_3++(⟨#[44]⟩:ByteArray)),(y159),(wrap64 (x5_1+1)),qz5,qz5,H',⟨qz75⟩,⟨Kd.Rp HO_4.out⟩,⟨qz1⟩⟩
                ·rw [if_neg c30] at H
                 exact absurd H (by simp)
              ·rw [if_neg c24] at H
               exact absurd H (by simp)
             ·rw [if_neg c23] at H
              exact absurd H (by simp)
            ·rw [if_neg c21] at H
             have c21b0:decide (0<(x4_3.length:Int))=false:=decide_eq_false c21;have c21b1:decide (0<x4_3.length)=false:=decide_eq_false (by omega);clear c21;have H':=Aside0.mk H;clear H;obtain ⟨Ao35,co35,eo35⟩:=Kd.R_slice HO_4.out;subst eo35;go_wp2;go_roundg k3
             case measure=>have:=HK1.out;have:=HJ11.out;have:=HK3.out;omega
             case rel=>exact ⟨(x3_3),(x4_3),(wrap64 (x5_1+1)),qz5,qz5,H',⟨qz75⟩,⟨Kd.Rp HO_4.out⟩,⟨qz1⟩⟩
      ·rw [if_neg c11] at H
       exact absurd H (by simp)
     ·rw [if_neg c9] at H
      exact absurd H (by simp)
    ·rw [if_neg c8] at H
     have c8b0:decide (x5_1<(l0.length:Int))=false:=decide_eq_false c8;clear c8;(first|rw [c8b0]|rw [c8b1]|(simp only [i64_w,i32_w];rw [c8b0])|skip);obtain rfl:=Option.some.inj H;go_wp2;go_ret;exact ⟨qz2,qz1⟩
 ·replace c5:=Bool.eq_false_iff.mpr c5
  subst c5;have H1:(some (⟨#[]⟩:ByteArray))=some r:=qz15;clear H;have H:=H1;clear H1;obtain rfl:=Option.some.inj H;go_wp2;go_ret;exact ⟨qz2,qz1⟩

end Go.Proofs.YtlhniagacegbeaaGreatDoor.P
