/- Contracts of functions of the program: each as a Lean function, and that its call does what that says; printed by cprint.py (this session) over print.py of the kit. Conditions: the hypotheses of each theorem. -/
import Derived.Test.YtlhniagacegbeaaGreatDoorVZ
import Derived.Test.YtlhniagacegbeaaGreatDoorP0
import Derived.Test.YtlhniagacegbeaaGreatDoorP1
namespace Go.Proofs.YtlhniagacegbeaaGreatDoor.P
open Go.RowKit Go.Proofs.YtlhniagacegbeaaGreatDoorW.PrintWords Go.Proofs.YtlhniagacegbeaaGreatDoorW.PrintLast Go.Proofs.YtlhniagacegbeaaGreatDoorW.PrintMore
attribute [local go_sem] max2_int min2_int max_two min_two max_three min_three max_four min_four   -- for this text's walks alone
set_option linter.unusedVariables false
set_option linter.unusedSimpArgs false

/-! ### spec_l1Digits: function 95 -/
mutual
def spec_l1Digits.l0:Nat→ByteArray→Int→Option (Int)
 | 0,_,_=>none
 | k+1,x0,x5=>if x5<(x0.size:Int) then (if 0≤x5 then (if (bt x0 x5)≥48 then (spec_l1Digits.j1 k x0 x5 (decide ((bt x0 x5)≤57))) else (spec_l1Digits.j1 k x0 x5 false)) else (none)) else (spec_l1Digits.j1 k x0 x5 false)
def spec_l1Digits.j1:Nat→ByteArray→Int→Bool→Option (Int)
 | 0,_,_,_=>none
 | k+1,x0,x5,x22=>if x22=true then (spec_l1Digits.l0 k x0 (wrap64 (x5+1))) else (some x5)
end
def spec_l1Digits.f (k:Nat) (a0:ByteArray) (a1:Int):Option (Int):=spec_l1Digits.l0 k a0 a1
set_option maxHeartbeats 8000000 in
set_option maxRecDepth 100000 in
theorem spec_l1Digits.calls (k:Nat) (a0:ByteArray) (a1:Int) (r:Int) (w:World) (h:spec_l1Digits.f k a0 a1=some r) :
  Calls Tryz.prog 95 #[.string a0,.int .i64 a1] w fun e w'=>e = .returned (.int .i64 r)∧Drawn0 w w':=by
 have H:(spec_l1Digits.l0 k a0 a1)=some r:=h;clear h;have H':=Aside0.mk H;clear H;go_enter Tryz.func95,Tryz.ntmps95;go_wp2
 go_loopg [5] k (fun kq v5 w'=>∃ (x5_1:Int),v5 = .int .i64 x5_1∧Aside0 (spec_l1Digits.l0 kq a0 x5_1=some r)∧Aside0 (kq≤k)∧Drawn0 w w')
 case atStart=>exact ⟨(a1),qz5,H',⟨Nat.le_refl _⟩,qz20⟩
 case round=>
  clear H';obtain ⟨x5_1,rfl,HA,HK1,⟨m1,rfl⟩⟩:=hrel;cases gk with
  | zero=>exact absurd HA.out (by simp [spec_l1Digits.l0])
  | succ k1=>
   have H:=HA.out;clear HA;simp only [spec_l1Digits.l0] at H;have HC3:=Aside0.mk H;clear H;go_upto_region 2 with (fail)
   go_cut [22] (fun v22 wc=>∃ (kq:Nat) (x22_2:Bool),v22 = .bool x22_2∧Aside0 (spec_l1Digits.j1 kq a0 x5_1 x22_2=some r)∧Aside0 (kq≤k1)∧Drawn0 w wc)
   case first=>
    have H:=HC3.out;clear HC3;by_cases c4:x5_1<(a0.size:Int)
    ·rw [if_pos c4] at H
     have c4b0:decide (x5_1<(a0.size:Int))=true:=decide_eq_true c4;clear c4;(first|rw [c4b0]|rw [c4b1]|(simp only [i64_w,i32_w];rw [c4b0])|skip);by_cases c5:0≤x5_1
     ·rw [if_pos c5] at H
      have c5b0:decide (0≤x5_1)=true:=decide_eq_true c5;clear c5;by_cases c7:(bt a0 x5_1)≥48
      ·rw [if_pos c7] at H
       have c7b0:decide (48≤(bt a0 x5_1))=true:=decide_eq_true c7;clear c7;have H':=Aside0.mk H;clear H;have p6:0≤(x5_1:Int):=of_decide_eq_true qz4;have q6:x5_1<(a0.size:Int):=of_decide_eq_true qz4;have hx6:=bt_at a0 x5_1;replace p6:=eq_true p6;replace q6:=eq_true q6;have p8:0≤(x5_1:Int):=of_decide_eq_true qz4;have q8:x5_1<(a0.size:Int):=of_decide_eq_true qz4;have hx8:=bt_at a0 x5_1;replace p8:=eq_true p8;replace q8:=eq_true q8;go_wp2;go_meet
       case rel=>exact ⟨_,(decide ((bt a0 x5_1)≤57)),qz5,H',⟨qz45⟩,qz20⟩
      ·rw [if_neg c7] at H
       have c7b0:decide (48≤(bt a0 x5_1))=false:=decide_eq_false c7;clear c7;have H':=Aside0.mk H;clear H;have p6:0≤(x5_1:Int):=of_decide_eq_true qz4;have q6:x5_1<(a0.size:Int):=of_decide_eq_true qz4;have hx6:=bt_at a0 x5_1;replace p6:=eq_true p6;replace q6:=eq_true q6;go_wp2;go_meet
       case rel=>exact ⟨_,(false),qz5,H',⟨qz45⟩,qz20⟩
     ·rw [if_neg c5] at H
      exact absurd H (by simp)
    ·rw [if_neg c4] at H
     have c4b0:decide (x5_1<(a0.size:Int))=false:=decide_eq_false c4;clear c4;(first|rw [c4b0]|rw [c4b1]|(simp only [i64_w,i32_w];rw [c4b0])|skip);have H':=Aside0.mk H;clear H;go_wp2;go_meet
     case rel=>exact ⟨_,(false),qz5,H',⟨qz45⟩,qz20⟩
   case rest=>
    clear HC3;obtain ⟨kq,x22_2,rfl,HA,HJ2,⟨mc2,rfl⟩⟩:=hcut;cases kq with
    | zero=>exact absurd HA.out (by simp [spec_l1Digits.j1])
    | succ kj2=>
     have H:=HA.out;clear HA;simp only [spec_l1Digits.j1] at H;by_cases c9:x22_2=true
     ·subst c9
      have H1:(spec_l1Digits.l0 kj2 a0 (wrap64 (x5_1+1)))=some r:=qz26;clear H;have H:=H1;clear H1;have H':=Aside0.mk H;clear H;go_wp2;go_roundg kj2
      case measure=>have:=HK1.out;have:=HJ2.out;omega
      case rel=>exact ⟨(wrap64 (x5_1+1)),qz5,H',⟨by have:=HK1.out;have:=HJ2.out;omega⟩,qz20⟩
     ·replace c9:=Bool.eq_false_iff.mpr c9
      subst c9;have H1:(some x5_1)=some r:=qz15;clear H;have H:=H1;clear H1;obtain rfl:=Option.some.inj H;go_wp2;go_ret;exact ⟨qz5,qz20⟩

/-! ### spec_l1Num: function 96 -/
mutual
def spec_l1Num.j0:Nat→ByteArray→Bool→Option (Int)
 | 0,_,_=>none
 | k+1,x0,x12=>if x12=true then (some (-1)) else (spec_l1Num.l0 k x0 0 0)
def spec_l1Num.l0:Nat→ByteArray→Int→Int→Option (Int)
 | 0,_,_,_=>none
 | k+1,x0,x3,x4=>if x4<(x0.size:Int) then (if 0≤x4 then (spec_l1Num.l0 k x0 (wrap64 ((wrap64 (x3 * 10))+(((bt x0 x4) - 48) % 256))) (wrap64 (x4+1))) else (none)) else (some x3)
end
def spec_l1Num.f (k:Nat) (a0:ByteArray):Option (Int):=if (a0.size:Int)=0 then (spec_l1Num.j0 k a0 true) else (spec_l1Num.j0 k a0 (decide ((a0.size:Int) > 5)))
set_option maxHeartbeats 8000000 in
set_option maxRecDepth 100000 in
theorem spec_l1Num.calls (k:Nat) (a0:ByteArray) (r:Int) (w:World) (h:spec_l1Num.f k a0=some r) :
  Calls Tryz.prog 96 #[.string a0] w fun e w'=>e = .returned (.int .i64 r)∧Drawn0 w w':=by
 have H:(if (a0.size:Int)=0 then (spec_l1Num.j0 k a0 true) else (spec_l1Num.j0 k a0 (decide ((a0.size:Int) > 5))))=some r:=h;clear h;have HC2:=Aside0.mk H;clear H;go_enter Tryz.func96,Tryz.ntmps96;go_upto_region 1 with (fail)
 go_cut [12] (fun v12 wc=>∃ (kq:Nat) (x12_1:Bool),v12 = .bool x12_1∧Aside0 (spec_l1Num.j0 kq a0 x12_1=some r)∧Aside0 (kq≤k)∧Drawn0 w wc)
 case first=>
  have H:=HC2.out;clear HC2;by_cases c3:(a0.size:Int)=0
  ·rw [if_pos c3] at H
   have c3b0:((a0.size:Int) == 0)=true:=beq_iff_eq.mpr c3;have c3b1:((a0.size:Int) != 0)=false:=bne_eq_false_iff_eq.mpr c3;clear c3;(first|rw [c3b0]|rw [c3b1]|(simp only [i64_w,i32_w];rw [c3b0])|skip);have H':=Aside0.mk H;clear H;go_wp2;go_meet
   case rel=>exact ⟨_,(true),qz5,H',⟨qz44⟩,qz20⟩
  ·rw [if_neg c3] at H
   have c3b0:((a0.size:Int) == 0)=false:=beq_eq_false_iff_ne.mpr c3;have c3b1:((a0.size:Int) != 0)=true:=bne_iff_ne.mpr c3;(first|rw [c3b0]|rw [c3b1]|(simp only [i64_w,i32_w];rw [c3b0])|skip);have H':=Aside0.mk H;clear H;go_wp2;go_meet
   case rel=>exact ⟨_,(decide ((a0.size:Int) > 5)),qz5,H',⟨qz44⟩,qz20⟩
 case rest=>
  clear HC2;obtain ⟨kq,x12_1,rfl,HA,HJ1,⟨mc1,rfl⟩⟩:=hcut;cases kq with
  | zero=>exact absurd HA.out (by simp [spec_l1Num.j0])
  | succ kj1=>
   have H:=HA.out;clear HA;simp only [spec_l1Num.j0] at H;by_cases c4:x12_1=true
   ·subst c4
    have H1:(some (-1))=some r:=qz26;clear H;have H:=H1;clear H1;obtain rfl:=Option.some.inj H;go_wp2;go_ret;exact ⟨qz5,qz20⟩
   ·replace c4:=Bool.eq_false_iff.mpr c4
    subst c4;have H1:(spec_l1Num.l0 kj1 a0 0 0)=some r:=qz15;clear H;have H:=H1;clear H1;have H':=Aside0.mk H;clear H;go_wp2
    go_loopg [3,4] kj1 (fun kq v3 v4 w'=>∃ (x3_2:Int) (x4_2:Int),v3 = .int .i64 x3_2∧v4 = .int .i64 x4_2∧Aside0 (spec_l1Num.l0 kq a0 x3_2 x4_2=some r)∧Aside0 (kq≤kj1)∧Drawn0 w w')
    case atStart=>exact ⟨(0),(0),qz5,qz5,H',⟨Nat.le_refl _⟩,qz20⟩
    case round=>
     clear H';(try clear c4);obtain ⟨x3_2,x4_2,rfl,rfl,HA,HK2,⟨m2,rfl⟩⟩:=hrel;cases gk with
     | zero=>exact absurd HA.out (by simp [spec_l1Num.l0])
     | succ k2=>
      have H:=HA.out;clear HA;simp only [spec_l1Num.l0] at H;by_cases c5:x4_2<(a0.size:Int)
      ·rw [if_pos c5] at H
       have c5b0:decide (x4_2<(a0.size:Int))=true:=decide_eq_true c5;clear c5;by_cases c6:0≤x4_2
       ·rw [if_pos c6] at H
        have c6b0:decide (0≤x4_2)=true:=decide_eq_true c6;clear c6;have H':=Aside0.mk H;clear H;have p7:0≤(x4_2:Int):=of_decide_eq_true qz4;have q7:x4_2<(a0.size:Int):=of_decide_eq_true qz4;have hx7:=bt_at a0 x4_2;replace p7:=eq_true p7;replace q7:=eq_true q7;go_wp2;go_roundg k2
        case measure=>have:=HJ1.out;have:=HK2.out;omega
        case rel=>exact ⟨(wrap64 ((wrap64 (x3_2 * 10))+(((bt a0 x4_2) - 48) % 256))),(wrap64 (x4_2+1)),qz5,qz5,H',⟨qz59⟩,qz20⟩
       ·rw [if_neg c6] at H
        exact absurd H (by simp)
      ·rw [if_neg c5] at H
       have c5b0:decide (x4_2<(a0.size:Int))=false:=decide_eq_false c5;clear c5;obtain rfl:=Option.some.inj H;go_wp2;go_ret;exact ⟨qz5,qz20⟩

/-! ### spec_l1Take: function 71 -/
mutual
def spec_l1Take.j0:Nat→ByteArray→Int→Bool→Option (Int × Int × ByteArray × Int)
 | 0,_,_,_=>none
 | k+1,x0,x1,x53=>if x53=true then ((spec_l1Digits.f k x0 x1).bind fun t165=>(if 0≤x1 then (if x1≤t165 then (if t165≤(x0.size:Int) then ((spec_l1Num.f k (x0.extract (x1:Int).toNat (t165:Int).toNat)).bind fun t166=>(some (2,t166,(⟨#[]⟩:ByteArray),t165))) else (none)) else (none)) else (none))) else (spec_l1Take.l0 k x0 x1 x1)
def spec_l1Take.l0:Nat→ByteArray→Int→Int→Option (Int × Int × ByteArray × Int)
 | 0,_,_,_=>none
 | k+1,x0,x1,x10=>if x10<(x0.size:Int) then (if 0≤x10 then (if (bt x0 x10)≥97 then (spec_l1Take.j2 k x0 x1 x10 (decide ((bt x0 x10)≤122))) else (spec_l1Take.j2 k x0 x1 x10 false)) else (none)) else (spec_l1Take.j2 k x0 x1 x10 false)
def spec_l1Take.j2:Nat→ByteArray→Int→Int→Bool→Option (Int × Int × ByteArray × Int)
 | 0,_,_,_,_=>none
 | k+1,x0,x1,x10,x80=>if x80=true then (spec_l1Take.l0 k x0 x1 (wrap64 (x10+1))) else (if 0≤x1 then (if x1≤x10 then (if x10≤(x0.size:Int) then (some (3,0,x0.extract (x1:Int).toNat (x10:Int).toNat,x10)) else (none)) else (none)) else (none))
end
def spec_l1Take.f (k:Nat) (a0:ByteArray) (a1:Int):Option (Int × Int × ByteArray × Int):=if a1≥(a0.size:Int) then (some (0,0,(⟨#[]⟩:ByteArray),(-1))) else (if 0≤a1 then (if a1<(a0.size:Int) then (if (bt a0 a1)=88 then ((spec_l1Digits.f k a0 (wrap64 (a1+1))).bind fun t161=>(if 0≤(wrap64 (a1+1)) then (if (wrap64 (a1+1))≤t161 then (if t161≤(a0.size:Int) then ((spec_l1Num.f k (a0.extract ((wrap64 (a1+1)):Int).toNat (t161:Int).toNat)).bind fun t162=>(some (1,t162,(⟨#[]⟩:ByteArray),t161))) else (none)) else (none)) else (none))) else (if (bt a0 a1)=45 then ((spec_l1Digits.f k a0 (wrap64 (a1+1))).bind fun t163=>(if 0≤(wrap64 (a1+1)) then (if (wrap64 (a1+1))≤t163 then (if t163≤(a0.size:Int) then ((spec_l1Num.f k (a0.extract ((wrap64 (a1+1)):Int).toNat (t163:Int).toNat)).bind fun t164=>(some (2,wrap64 (-t164),(⟨#[]⟩:ByteArray),t163))) else (none)) else (none)) else (none))) else (if (bt a0 a1)≥48 then (spec_l1Take.j0 k a0 a1 (decide ((bt a0 a1)≤57))) else (spec_l1Take.j0 k a0 a1 false)))) else (none)) else (none))
set_option maxHeartbeats 8000000 in
set_option maxRecDepth 100000 in
theorem spec_l1Take.calls (k:Nat) (a0:ByteArray) (a1:Int) (r1:Int) (r2:Int) (r3:ByteArray) (r4:Int) (w:World) (h:spec_l1Take.f k a0 a1=some (r1,r2,r3,r4)) :
  Calls Tryz.prog 71 #[.string a0,.int .i64 a1] w fun e w'=>e = .returned (.tuple #[.agg #[.int .i64 r1,.int .i64 r2,.string r3],.int .i64 r4])∧Below w.heap.size w w':=by
 have hu63:=Tryz.underlying63;have HB:=Aside0.mk (Below.refl w.heap.size w);have H:(if a1≥(a0.size:Int) then (some (0,0,(⟨#[]⟩:ByteArray),(-1))) else (if 0≤a1 then (if a1<(a0.size:Int) then (if (bt a0 a1)=88 then ((spec_l1Digits.f k a0 (wrap64 (a1+1))).bind fun t161=>(if 0≤(wrap64 (a1+1)) then (if (wrap64 (a1+1))≤t161 then (if t161≤(a0.size:Int) then ((spec_l1Num.f k (a0.extract ((wrap64 (a1+1)):Int).toNat (t161:Int).toNat)).bind fun t162=>(some (1,t162,(⟨#[]⟩:ByteArray),t161))) else (none)) else (none)) else (none))) else (if (bt a0 a1)=45 then ((spec_l1Digits.f k a0 (wrap64 (a1+1))).bind fun t163=>(if 0≤(wrap64 (a1+1)) then (if (wrap64 (a1+1))≤t163 then (if t163≤(a0.size:Int) then ((spec_l1Num.f k (a0.extract ((wrap64 (a1+1)):Int).toNat (t163:Int).toNat)).bind fun t164=>(some (2,wrap64 (-t164),(⟨#[]⟩:ByteArray),t163))) else (none)) else (none)) else (none))) else (if (bt a0 a1)≥48 then (spec_l1Take.j0 k a0 a1 (decide ((bt a0 a1)≤57))) else (spec_l1Take.j0 k a0 a1 false)))) else (none)) else (none)))=some (r1,r2,r3,r4):=h;clear h;have HC3:=Aside0.mk H;clear H;go_enter Tryz.func71,Tryz.ntmps71;go_upto_if 14 with (first|((with_reducible refine gate_dst (N:=4) rfl ?_);refine box_event ?hg (N:=4) ?hd (cs:=#[.int .i64 0,.int .i64 0,.string (⟨#[]⟩:ByteArray)]) (t:=63) ?hr ?_;(case hd=>rfl);(case hg=>rfl);(case hr=>first|(go_simp;done)|(go_simp;rfl));intro gb160 hg w4 hbox hb;have n_:=as3 (below_step qz3 hb) (hbox) ((by rw [hg];exact (below_size qz3):w.heap.size≤gb160));clear HB;obtain ⟨HB,BK160,GE160⟩:=n_;clear hb hbox hg))
 (try simp only [Act.put,sA_,sZ_,sS_]);have H:=HC3.out;clear HC3;by_cases c5:a1≥(a0.size:Int)
 ·rw [if_pos c5] at H
  have c5b0:decide ((a0.size:Int)≤a1)=true:=decide_eq_true c5;clear c5;(first|rw [c5b0]|rw [c5b1]|(simp only [i64_w,i32_w];rw [c5b0])|skip);simp only [Option.some.injEq,Prod.mk.injEq] at H;obtain ⟨rfl,rfl,rfl,rfl⟩:=H;obtain ⟨hcz6_0,hcz6_1,hcz6_2,hfz6_0,hfz6_1,hfz6_2⟩:=blk3 BK160.out;go_wp2;refine bodyPost_ret (results_ct rfl _ _ gb160 63 #[.int .i64 0,.int .i64 0,.string (⟨#[]⟩:ByteArray)] (0,0) _ rfl (blkp (blk_put (cs:=#[.int .i64 0,.int .i64 0,.string (⟨#[]⟩:ByteArray)]) (blk_put (cs:=#[.int .i64 0,.int .i64 0,.string (⟨#[]⟩:ByteArray)]) (blk_put (cs:=#[.int .i64 0,.int .i64 0,.string (⟨#[]⟩:ByteArray)]) BK160.out 0 _ rfl) 1 _ rfl) 2 _ rfl)) Tryz.underlying63 rfl (by kernel_rfl)) rfl ?_;exact ⟨qz2,qz16⟩
 ·rw [if_neg c5] at H
  have c5b0:decide ((a0.size:Int)≤a1)=false:=decide_eq_false c5;clear c5;(first|rw [c5b0]|rw [c5b1]|(simp only [i64_w,i32_w];rw [c5b0])|skip);by_cases c7:0≤a1
  ·rw [if_pos c7] at H
   have c7b0:decide (0≤a1)=true:=decide_eq_true c7;clear c7;by_cases c8:a1<(a0.size:Int)
   ·rw [if_pos c8] at H
    have c8b0:decide (a1<(a0.size:Int))=true:=decide_eq_true c8;clear c8;by_cases c10:(bt a0 a1)=88
    ·rw [if_pos c10] at H
     have c10b0:((bt a0 a1) == 88)=true:=beq_iff_eq.mpr c10;have c10b1:((bt a0 a1) != 88)=false:=bne_eq_false_iff_eq.mpr c10;clear c10;replace H:=Option.bind_eq_some_iff.mp H;obtain ⟨t161,A110,H⟩:=H;(try dsimp only at H);have A11:=Aside0.mk A110;clear A110;obtain ⟨ji12,hji12⟩:∃ j_:Int,(wrap64 (a1+1))=j_:=⟨_,rfl⟩;replace H:(if 0≤(ji12) then (if (ji12)≤t161 then (if t161≤(a0.size:Int) then ((spec_l1Num.f k (a0.extract ((ji12):Int).toNat (t161:Int).toNat)).bind fun t162=>(some (1,t162,(⟨#[]⟩:ByteArray),t161))) else (none)) else (none)) else (none))=some (r1,r2,r3,r4):=by first|(rw [hji12] at H;exact H)|(simp only [hji12] at H ⊢;exact H)
     (try rw [hji12] at A11);have hji12w:(IntKind.i64.wrap (a1+1))=ji12:=(i64_w _).trans hji12;by_cases c13:0≤(ji12)
     ·rw [if_pos c13] at H
      have c13b0:=eq_true c13;have c13b1:decide (0≤(ji12))=true:=decide_eq_true c13;clear c13;by_cases c14:(ji12)≤t161
      ·rw [if_pos c14] at H
       have c14b0:=eq_true c14;have c14b1:decide ((ji12)≤t161)=true:=decide_eq_true c14;clear c14;by_cases c15:t161≤(a0.size:Int)
       ·rw [if_pos c15] at H
        have c15b0:=eq_true c15;have c15b1:decide (t161≤(a0.size:Int))=true:=decide_eq_true c15;clear c15;replace H:=Option.bind_eq_some_iff.mp H;obtain ⟨t162,A160,H⟩:=H;(try dsimp only at H);have A16:=Aside0.mk A160;clear A160;simp only [Option.some.injEq,Prod.mk.injEq] at H;obtain ⟨rfl,rfl,rfl,rfl⟩:=H;have p9:0≤(a1:Int):=of_decide_eq_true qz4;have q9:a1<(a0.size:Int):=of_decide_eq_true qz4;have hx9:=bt_at a0 a1;replace p9:=eq_true p9;replace q9:=eq_true q9
        go_wp2_with (first|(go_at_call 95;(with_reducible refine (spec_l1Digits.calls k a0 ji12 t161 _ A11.out).mono ?_);rintro e w' ⟨rfl,⟨nd,rfl⟩⟩;(try (rw [drewN_self w4];generalize hq_:World.drewN w4 _=w4;have n0_:Aside0 (w4.heap[gb160]?=some (.cells #[.int .i64 0,.int .i64 0,.string (⟨#[]⟩:ByteArray)] 63 (0,0))):=⟨qz64⟩;have n1_:Aside0 (Below w.heap.size w w4):=⟨by rw [← hq_];exact qz16⟩;clear BK160 HB hq_;have BK160:=n0_;have HB:=n1_;clear n0_ n1_)))|(go_at_call 96;(with_reducible refine (spec_l1Num.calls k (a0.extract ((ji12):Int).toNat (t161:Int).toNat) t162 _ A16.out).mono ?_);rintro e w' ⟨rfl,⟨nd,rfl⟩⟩;(try (rw [drewN_self w4];generalize hq_:World.drewN w4 _=w4;have n0_:Aside0 (w4.heap[gb160]?=some (.cells #[.int .i64 0,.int .i64 0,.string (⟨#[]⟩:ByteArray)] 63 (0,0))):=⟨qz64⟩;have n1_:Aside0 (Below w.heap.size w w4):=⟨by rw [← hq_];exact qz16⟩;clear BK160 HB hq_;have BK160:=n0_;have HB:=n1_;clear n0_ n1_));obtain ⟨hcz17_0,hcz17_1,hcz17_2,hfz17_0,hfz17_1,hfz17_2⟩:=blk3 BK160.out))
        refine bodyPost_ret (results_ct rfl _ _ gb160 63 #[.int .i64 1,.int .i64 t162,.string (⟨#[]⟩:ByteArray)] (0,0) _ rfl (blkp (blk_put (cs:=#[.int .i64 1,.int .i64 t162,.string (⟨#[]⟩:ByteArray)]) (blk_put (cs:=#[.int .i64 1,.int .i64 0,.string (⟨#[]⟩:ByteArray)]) (blk_put (cs:=#[.int .i64 0,.int .i64 0,.string (⟨#[]⟩:ByteArray)]) BK160.out 0 _ rfl) 1 _ rfl) 2 _ rfl)) Tryz.underlying63 rfl (by kernel_rfl)) rfl ?_;exact ⟨by first|rfl|(simp [errW_none,errW_some] <;> rfl)|(simp only [← hji12];first|rfl|(simp [errW_none,errW_some] <;> rfl))|(simp [*,errW_none,errW_some] <;> rfl),qz16⟩
       ·rw [if_neg c15] at H
        exact absurd H (by simp)
      ·rw [if_neg c14] at H
       exact absurd H (by simp)
     ·rw [if_neg c13] at H
      exact absurd H (by simp)
    ·rw [if_neg c10] at H
     have c10b0:((bt a0 a1) == 88)=false:=beq_eq_false_iff_ne.mpr c10;have c10b1:((bt a0 a1) != 88)=true:=bne_iff_ne.mpr c10;by_cases c18:(bt a0 a1)=45
     ·rw [if_pos c18] at H
      have c18b0:((bt a0 a1) == 45)=true:=beq_iff_eq.mpr c18;have c18b1:((bt a0 a1) != 45)=false:=bne_eq_false_iff_eq.mpr c18;clear c18;replace H:=Option.bind_eq_some_iff.mp H;obtain ⟨t163,A190,H⟩:=H;(try dsimp only at H);have A19:=Aside0.mk A190;clear A190;obtain ⟨ji20,hji20⟩:∃ j_:Int,(wrap64 (a1+1))=j_:=⟨_,rfl⟩;replace H:(if 0≤(ji20) then (if (ji20)≤t163 then (if t163≤(a0.size:Int) then ((spec_l1Num.f k (a0.extract ((ji20):Int).toNat (t163:Int).toNat)).bind fun t164=>(some (2,wrap64 (-t164),(⟨#[]⟩:ByteArray),t163))) else (none)) else (none)) else (none))=some (r1,r2,r3,r4):=by first|(rw [hji20] at H;exact H)|(simp only [hji20] at H ⊢;exact H)
      (try rw [hji20] at A19);have hji20w:(IntKind.i64.wrap (a1+1))=ji20:=(i64_w _).trans hji20;by_cases c21:0≤(ji20)
      ·rw [if_pos c21] at H
       have c21b0:=eq_true c21;have c21b1:decide (0≤(ji20))=true:=decide_eq_true c21;clear c21;by_cases c22:(ji20)≤t163
       ·rw [if_pos c22] at H
        have c22b0:=eq_true c22;have c22b1:decide ((ji20)≤t163)=true:=decide_eq_true c22;clear c22;by_cases c23:t163≤(a0.size:Int)
        ·rw [if_pos c23] at H
         have c23b0:=eq_true c23;have c23b1:decide (t163≤(a0.size:Int))=true:=decide_eq_true c23;clear c23;replace H:=Option.bind_eq_some_iff.mp H;obtain ⟨t164,A240,H⟩:=H;(try dsimp only at H);have A24:=Aside0.mk A240;clear A240;simp only [Option.some.injEq,Prod.mk.injEq] at H;obtain ⟨rfl,rfl,rfl,rfl⟩:=H;have p9:0≤(a1:Int):=of_decide_eq_true qz4;have q9:a1<(a0.size:Int):=of_decide_eq_true qz4;have hx9:=bt_at a0 a1;replace p9:=eq_true p9;replace q9:=eq_true q9
         go_wp2_with (first|(go_at_call 95;(with_reducible refine (spec_l1Digits.calls k a0 ji20 t163 _ A19.out).mono ?_);rintro e w' ⟨rfl,⟨nd,rfl⟩⟩;(try (rw [drewN_self w4];generalize hq_:World.drewN w4 _=w4;have n0_:Aside0 (w4.heap[gb160]?=some (.cells #[.int .i64 0,.int .i64 0,.string (⟨#[]⟩:ByteArray)] 63 (0,0))):=⟨qz64⟩;have n1_:Aside0 (Below w.heap.size w w4):=⟨by rw [← hq_];exact qz16⟩;clear BK160 HB hq_;have BK160:=n0_;have HB:=n1_;clear n0_ n1_)))|(go_at_call 96;(with_reducible refine (spec_l1Num.calls k (a0.extract ((ji20):Int).toNat (t163:Int).toNat) t164 _ A24.out).mono ?_);rintro e w' ⟨rfl,⟨nd,rfl⟩⟩;(try (rw [drewN_self w4];generalize hq_:World.drewN w4 _=w4;have n0_:Aside0 (w4.heap[gb160]?=some (.cells #[.int .i64 0,.int .i64 0,.string (⟨#[]⟩:ByteArray)] 63 (0,0))):=⟨qz64⟩;have n1_:Aside0 (Below w.heap.size w w4):=⟨by rw [← hq_];exact qz16⟩;clear BK160 HB hq_;have BK160:=n0_;have HB:=n1_;clear n0_ n1_));obtain ⟨hcz25_0,hcz25_1,hcz25_2,hfz25_0,hfz25_1,hfz25_2⟩:=blk3 BK160.out))
         refine bodyPost_ret (results_ct rfl _ _ gb160 63 #[.int .i64 2,.int .i64 (wrap64 (-t164)),.string (⟨#[]⟩:ByteArray)] (0,0) _ rfl (blkp (blk_put (cs:=#[.int .i64 2,.int .i64 (wrap64 (-t164)),.string (⟨#[]⟩:ByteArray)]) (blk_put (cs:=#[.int .i64 2,.int .i64 0,.string (⟨#[]⟩:ByteArray)]) (blk_put (cs:=#[.int .i64 0,.int .i64 0,.string (⟨#[]⟩:ByteArray)]) BK160.out 0 _ rfl) 1 _ rfl) 2 _ rfl)) Tryz.underlying63 rfl (by kernel_rfl)) rfl ?_;exact ⟨by first|rfl|(simp [errW_none,errW_some] <;> rfl)|(simp only [← hji20];first|rfl|(simp [errW_none,errW_some] <;> rfl))|(simp [*,errW_none,errW_some] <;> rfl),qz16⟩
        ·rw [if_neg c23] at H
         exact absurd H (by simp)
       ·rw [if_neg c22] at H
        exact absurd H (by simp)
      ·rw [if_neg c21] at H
       exact absurd H (by simp)
     ·rw [if_neg c18] at H
      have c18b0:((bt a0 a1) == 45)=false:=beq_eq_false_iff_ne.mpr c18;have c18b1:((bt a0 a1) != 45)=true:=bne_iff_ne.mpr c18;have HC26:=Aside0.mk H;clear H;have p9:0≤(a1:Int):=of_decide_eq_true qz4;have q9:a1<(a0.size:Int):=of_decide_eq_true qz4;have hx9:=bt_at a0 a1;replace p9:=eq_true p9;replace q9:=eq_true q9;go_upto_region 10 with (fail)
      go_cut [53] (fun v53 wc=>∃ (kq:Nat) (x53_25:Bool),v53 = .bool x53_25∧Aside0 (spec_l1Take.j0 kq a0 a1 x53_25=some (r1,r2,r3,r4))∧Aside0 (kq≤k)∧Aside0 (wc.heap[gb160]?=some (.cells #[.int .i64 0,.int .i64 0,.string (⟨#[]⟩:ByteArray)] 63 (0,0)))∧Aside0 (Below w.heap.size w wc))
      case first=>
       have H:=HC26.out;clear HC26;by_cases c27:(bt a0 a1)≥48
       ·rw [if_pos c27] at H
        have c27b0:decide (48≤(bt a0 a1))=true:=decide_eq_true c27;clear c27;(first|rw [c27b0]|rw [c27b1]|(simp only [i64_w,i32_w];rw [c27b0])|skip);have H':=Aside0.mk H;clear H;go_wp2;go_meet
        case rel=>exact ⟨_,(decide ((bt a0 a1)≤57)),qz5,H',⟨qz44⟩,⟨blkp BK160.out⟩,⟨qz16⟩⟩
       ·rw [if_neg c27] at H
        have c27b0:decide (48≤(bt a0 a1))=false:=decide_eq_false c27;clear c27;(first|rw [c27b0]|rw [c27b1]|(simp only [i64_w,i32_w];rw [c27b0])|skip);have H':=Aside0.mk H;clear H;go_wp2;go_meet
        case rel=>exact ⟨_,(false),qz5,H',⟨qz44⟩,⟨blkp BK160.out⟩,⟨qz16⟩⟩
      case rest=>
       clear HC26;(try clear c5);(try clear c5b0);(try clear c7);(try clear c7b0);(try clear c8);(try clear c8b0);(try clear p9);(try clear q9);(try clear hx9);(try clear c10);(try clear c10b0);(try clear c10b1);(try clear c18);(try clear c18b0);(try clear c18b1);(try clear p9);(try clear q9);obtain ⟨kq,x53_25,rfl,HA,HJ25,BK160,HB⟩:=hcut;cases kq with
       | zero=>exact absurd HA.out (by simp [spec_l1Take.j0])
       | succ kj25=>
        have H:=HA.out;clear HA;simp only [spec_l1Take.j0] at H;by_cases c28:x53_25=true
        ·subst c28
         have H1:((spec_l1Digits.f kj25 a0 a1).bind fun t165=>(if 0≤a1 then (if a1≤t165 then (if t165≤(a0.size:Int) then ((spec_l1Num.f kj25 (a0.extract (a1:Int).toNat (t165:Int).toNat)).bind fun t166=>(some (2,t166,(⟨#[]⟩:ByteArray),t165))) else (none)) else (none)) else (none)))=some (r1,r2,r3,r4):=qz26;clear H;have H:=H1;clear H1;replace H:=Option.bind_eq_some_iff.mp H;obtain ⟨t165,A290,H⟩:=H;(try dsimp only at H);have A29:=Aside0.mk A290;clear A290;by_cases c30:0≤a1
         ·rw [if_pos c30] at H
          have c30b0:=eq_true c30;have c30b1:decide (0≤a1)=true:=decide_eq_true c30;clear c30;by_cases c31:a1≤t165
          ·rw [if_pos c31] at H
           have c31b0:=eq_true c31;have c31b1:decide (a1≤t165)=true:=decide_eq_true c31;clear c31;by_cases c32:t165≤(a0.size:Int)
           ·rw [if_pos c32] at H
            have c32b0:=eq_true c32;have c32b1:decide (t165≤(a0.size:Int))=true:=decide_eq_true c32;clear c32;replace H:=Option.bind_eq_some_iff.mp H;obtain ⟨t166,A330,H⟩:=H;(try dsimp only at H);have A33:=Aside0.mk A330;clear A330;simp only [Option.some.injEq,Prod.mk.injEq] at H;obtain ⟨rfl,rfl,rfl,rfl⟩:=H
            go_wp2_with (first|(go_at_call 95;(with_reducible refine (spec_l1Digits.calls kj25 a0 a1 t165 _ A29.out).mono ?_);rintro e w' ⟨rfl,⟨nd,rfl⟩⟩;(try (rw [drewN_self wc];generalize hq_:World.drewN wc _=wc;have n0_:Aside0 (wc.heap[gb160]?=some (.cells #[.int .i64 0,.int .i64 0,.string (⟨#[]⟩:ByteArray)] 63 (0,0))):=⟨qz64⟩;have n1_:Aside0 (Below w.heap.size w wc):=⟨by rw [← hq_];exact qz16⟩;clear BK160 HB hq_;have BK160:=n0_;have HB:=n1_;clear n0_ n1_)))|(go_at_call 96;(with_reducible refine (spec_l1Num.calls kj25 (a0.extract (a1:Int).toNat (t165:Int).toNat) t166 _ A33.out).mono ?_);rintro e w' ⟨rfl,⟨nd,rfl⟩⟩;(try (rw [drewN_self wc];generalize hq_:World.drewN wc _=wc;have n0_:Aside0 (wc.heap[gb160]?=some (.cells #[.int .i64 0,.int .i64 0,.string (⟨#[]⟩:ByteArray)] 63 (0,0))):=⟨qz64⟩;have n1_:Aside0 (Below w.heap.size w wc):=⟨by rw [← hq_];exact qz16⟩;clear BK160 HB hq_;have BK160:=n0_;have HB:=n1_;clear n0_ n1_));obtain ⟨hcz34_0,hcz34_1,hcz34_2,hfz34_0,hfz34_1,hfz34_2⟩:=blk3 BK160.out))
            refine bodyPost_ret (results_ct rfl _ _ gb160 63 #[.int .i64 2,.int .i64 t166,.string (⟨#[]⟩:ByteArray)] (0,0) _ rfl (blkp (blk_put (cs:=#[.int .i64 2,.int .i64 t166,.string (⟨#[]⟩:ByteArray)]) (blk_put (cs:=#[.int .i64 2,.int .i64 0,.string (⟨#[]⟩:ByteArray)]) (blk_put (cs:=#[.int .i64 0,.int .i64 0,.string (⟨#[]⟩:ByteArray)]) BK160.out 0 _ rfl) 1 _ rfl) 2 _ rfl)) Tryz.underlying63 rfl (by kernel_rfl)) rfl ?_;exact ⟨qz2,qz16⟩
           ·rw [if_neg c32] at H
            exact absurd H (by simp)
          ·rw [if_neg c31] at H
           exact absurd H (by simp)
         ·rw [if_neg c30] at H
          exact absurd H (by simp)
        ·replace c28:=Bool.eq_false_iff.mpr c28
         subst c28;have H1:(spec_l1Take.l0 kj25 a0 a1 a1)=some (r1,r2,r3,r4):=qz15;clear H;have H:=H1;clear H1;have H':=Aside0.mk H;clear H;go_wp2
         go_loopg [10] kj25 (fun kq v10 w'=>∃ (x10_2:Int),v10 = .int .i64 x10_2∧Aside0 (spec_l1Take.l0 kq a0 a1 x10_2=some (r1,r2,r3,r4))∧Aside0 (kq≤kj25)∧Aside0 (w'.heap[gb160]?=some (.cells #[.int .i64 0,.int .i64 0,.string (⟨#[]⟩:ByteArray)] 63 (0,0)))∧Aside0 (Below w.heap.size w w'))
         case atStart=>exact ⟨(a1),qz5,H',⟨Nat.le_refl _⟩,⟨blkp BK160.out⟩,⟨qz16⟩⟩
         case round=>
          clear H';(try clear c5);(try clear c5b0);(try clear c7);(try clear c7b0);(try clear c8);(try clear c8b0);(try clear p9);(try clear q9);(try clear hx9);(try clear c10);(try clear c10b0);(try clear c10b1);(try clear c18);(try clear c18b0);(try clear c18b1);(try clear c28);(try clear p9);(try clear q9);obtain ⟨x10_2,rfl,HA,HK2,BK160,HB⟩:=hrel;cases gk with
          | zero=>exact absurd HA.out (by simp [spec_l1Take.l0])
          | succ k2=>
           have H:=HA.out;clear HA;simp only [spec_l1Take.l0] at H;have HC35:=Aside0.mk H;clear H;go_upto_region 14 with (fail)
           go_cut [80] (fun v80 wc=>∃ (kq:Nat) (x80_34:Bool),v80 = .bool x80_34∧Aside0 (spec_l1Take.j2 kq a0 a1 x10_2 x80_34=some (r1,r2,r3,r4))∧Aside0 (kq≤k2)∧Aside0 (wc.heap[gb160]?=some (.cells #[.int .i64 0,.int .i64 0,.string (⟨#[]⟩:ByteArray)] 63 (0,0)))∧Aside0 (Below w.heap.size w wc))
           case first=>
            have H:=HC35.out;clear HC35;by_cases c36:x10_2<(a0.size:Int)
            ·rw [if_pos c36] at H
             have c36b0:decide (x10_2<(a0.size:Int))=true:=decide_eq_true c36;clear c36;(first|rw [c36b0]|rw [c36b1]|(simp only [i64_w,i32_w];rw [c36b0])|skip);by_cases c37:0≤x10_2
             ·rw [if_pos c37] at H
              have c37b0:decide (0≤x10_2)=true:=decide_eq_true c37;clear c37;by_cases c39:(bt a0 x10_2)≥97
              ·rw [if_pos c39] at H
               have c39b0:decide (97≤(bt a0 x10_2))=true:=decide_eq_true c39;clear c39;have H':=Aside0.mk H;clear H;have p38:0≤(x10_2:Int):=of_decide_eq_true qz4;have q38:x10_2<(a0.size:Int):=of_decide_eq_true qz4;have hx38:=bt_at a0 x10_2;replace p38:=eq_true p38;replace q38:=eq_true q38;have p40:0≤(x10_2:Int):=of_decide_eq_true qz4;have q40:x10_2<(a0.size:Int):=of_decide_eq_true qz4;have hx40:=bt_at a0 x10_2;replace p40:=eq_true p40;replace q40:=eq_true q40;go_wp2;go_meet
               case rel=>exact ⟨_,(decide ((bt a0 x10_2)≤122)),qz5,H',⟨qz74⟩,⟨blkp BK160.out⟩,⟨qz16⟩⟩
              ·rw [if_neg c39] at H
               have c39b0:decide (97≤(bt a0 x10_2))=false:=decide_eq_false c39;clear c39;have H':=Aside0.mk H;clear H;have p38:0≤(x10_2:Int):=of_decide_eq_true qz4;have q38:x10_2<(a0.size:Int):=of_decide_eq_true qz4;have hx38:=bt_at a0 x10_2;replace p38:=eq_true p38;replace q38:=eq_true q38;go_wp2;go_meet
               case rel=>exact ⟨_,(false),qz5,H',⟨qz74⟩,⟨blkp BK160.out⟩,⟨qz16⟩⟩
             ·rw [if_neg c37] at H
              exact absurd H (by simp)
            ·rw [if_neg c36] at H
             have c36b0:decide (x10_2<(a0.size:Int))=false:=decide_eq_false c36;clear c36;(first|rw [c36b0]|rw [c36b1]|(simp only [i64_w,i32_w];rw [c36b0])|skip);have H':=Aside0.mk H;clear H;go_wp2;go_meet
             case rel=>exact ⟨_,(false),qz5,H',⟨qz74⟩,⟨blkp BK160.out⟩,⟨qz16⟩⟩
           case rest=>
            clear HC35;(try clear c5);(try clear c5b0);(try clear c7);(try clear c7b0);(try clear c8);(try clear c8b0);(try clear p9);(try clear q9);(try clear hx9);(try clear c10);(try clear c10b0);(try clear c10b1);(try clear c18);(try clear c18b0);(try clear c18b1);(try clear c28);(try clear p9);(try clear q9);obtain ⟨kq,x80_34,rfl,HA,HJ34,BK160,HB⟩:=hcut;cases kq with
            | zero=>exact absurd HA.out (by simp [spec_l1Take.j2])
            | succ kj34=>
             have H:=HA.out;clear HA;simp only [spec_l1Take.j2] at H;by_cases c41:x80_34=true
             ·subst c41
              have H1:(spec_l1Take.l0 kj34 a0 a1 (wrap64 (x10_2+1)))=some (r1,r2,r3,r4):=qz26;clear H;have H:=H1;clear H1;have H':=Aside0.mk H;clear H;go_wp2;go_roundg kj34
              case measure=>have:=HJ25.out;have:=HK2.out;have:=HJ34.out;omega
              case rel=>exact ⟨(wrap64 (x10_2+1)),qz5,H',⟨by have:=HJ25.out;have:=HK2.out;have:=HJ34.out;omega⟩,⟨blkp BK160.out⟩,⟨qz16⟩⟩
             ·replace c41:=Bool.eq_false_iff.mpr c41
              subst c41;have H1:(if 0≤a1 then (if a1≤x10_2 then (if x10_2≤(a0.size:Int) then (some (3,0,a0.extract (a1:Int).toNat (x10_2:Int).toNat,x10_2)) else (none)) else (none)) else (none))=some (r1,r2,r3,r4):=qz15;clear H;have H:=H1;clear H1;by_cases c42:0≤a1
              ·rw [if_pos c42] at H
               have c42b0:=eq_true c42;have c42b1:decide (0≤a1)=true:=decide_eq_true c42;clear c42;by_cases c43:a1≤x10_2
               ·rw [if_pos c43] at H
                have c43b0:=eq_true c43;have c43b1:decide (a1≤x10_2)=true:=decide_eq_true c43;clear c43;by_cases c44:x10_2≤(a0.size:Int)
                ·rw [if_pos c44] at H
                 have c44b0:=eq_true c44;have c44b1:decide (x10_2≤(a0.size:Int))=true:=decide_eq_true c44;clear c44;simp only [Option.some.injEq,Prod.mk.injEq] at H;obtain ⟨rfl,rfl,rfl,rfl⟩:=H;obtain ⟨hcz45_0,hcz45_1,hcz45_2,hfz45_0,hfz45_1,hfz45_2⟩:=blk3 BK160.out;go_wp2;refine bodyPost_ret (results_ct rfl _ _ gb160 63 #[.int .i64 3,.int .i64 0,.string (a0.extract (a1:Int).toNat (x10_2:Int).toNat)] (0,0) _ rfl (blkp (blk_put (cs:=#[.int .i64 3,.int .i64 0,.string (⟨#[]⟩:ByteArray)]) (blk_put (cs:=#[.int .i64 3,.int .i64 0,.string (⟨#[]⟩:ByteArray)]) (blk_put (cs:=#[.int .i64 0,.int .i64 0,.string (⟨#[]⟩:ByteArray)]) BK160.out 0 _ rfl) 1 _ rfl) 2 _ rfl)) Tryz.underlying63 rfl (by kernel_rfl)) rfl ?_;exact ⟨qz2,qz16⟩
                ·rw [if_neg c44] at H
                 exact absurd H (by simp)
               ·rw [if_neg c43] at H
                exact absurd H (by simp)
              ·rw [if_neg c42] at H
               exact absurd H (by simp)
   ·rw [if_neg c8] at H
    exact absurd H (by simp)
  ·rw [if_neg c7] at H
   exact absurd H (by simp)

/-! ### spec_TrmRead: function 44 -/
mutual
def spec_TrmRead.l0:Nat→ByteArray→List (S63)→List Int→Int→Option ((List (S63)) × Bool)
 | 0,_,_,_,_=>none
 | k+1,x0,x4,x5,x6=>if x6<(x0.size:Int) then (spec_TrmRead.j1 k x0 x4 x5 x6 (decide ((x4.length:Int)<40))) else (spec_TrmRead.j1 k x0 x4 x5 x6 false)
def spec_TrmRead.j1:Nat→ByteArray→List (S63)→List Int→Int→Bool→Option ((List (S63)) × Bool)
 | 0,_,_,_,_,_=>none
 | k+1,x0,x4,x5,x6,x19=>if x19=true then ((spec_l1Take.f k x0 x6).bind fun bt173=>(if bt173.2.2.2≤x6 then (some ((([]:List (S63))),false)) else (if (x5.length:Int) > 0 then (if 0≤(wrap64 ((x5.length:Int) - 1)) then (if (wrap64 ((x5.length:Int) - 1))<(x5.length:Int) then (if 0≤(rd x5 (wrap64 ((x5.length:Int) - 1))) then (if (rd x5 (wrap64 ((x5.length:Int) - 1)))<(x4.length:Int) then (spec_TrmRead.j2 k x0 (x4.set ((rd x5 (wrap64 ((x5.length:Int) - 1))):Int).toNat (⟨(rd_T63 x4 (rd x5 (wrap64 ((x5.length:Int) - 1)))).f0,wrap64 (((rd_T63 x4 (rd x5 (wrap64 ((x5.length:Int) - 1)))).f1)+1),(rd_T63 x4 (rd x5 (wrap64 ((x5.length:Int) - 1)))).f2⟩:S63)) x5 bt173.2.2.2 bt173.1 bt173.2.1 bt173.2.2.1) else (none)) else (none)) else (none)) else (none)) else (spec_TrmRead.j2 k x0 x4 x5 bt173.2.2.2 bt173.1 bt173.2.1 bt173.2.2.1)))) else ((spec_TrmText.f k x4).bind fun t194=>(if t194.toList=x0.toList then (if x0.toList=([]:List UInt8) then (some ((([]:List (S63))),false)) else (some (x4,true))) else (some ((([]:List (S63))),false))))
def spec_TrmRead.j2:Nat→ByteArray→List (S63)→List Int→Int→Int→Int→ByteArray→Option ((List (S63)) × Bool)
 | 0,_,_,_,_,_,_,_=>none
 | k+1,x0,x4,x5,x8,x178000,x178001,x178002=>if x4.length<4398046511104 then ((some (x4++[(⟨x178000,x178001,x178002⟩:S63)]:List (S63))).bind fun y185=>(if x178000=3 then (if x8<(x0.size:Int) then (if 0≤x8 then (spec_TrmRead.j3 k x0 y185 x5 x8 ((bt x0 x8) == 40)) else (none)) else (spec_TrmRead.j3 k x0 y185 x5 x8 false)) else (spec_TrmRead.j3 k x0 y185 x5 x8 false))) else (none)
def spec_TrmRead.j3:Nat→ByteArray→List (S63)→List Int→Int→Bool→Option ((List (S63)) × Bool)
 | 0,_,_,_,_,_=>none
 | k+1,x0,x4,x5,x6,x72=>if x72=true then (if x5.length<17592186044416 then (spec_TrmRead.l0 k x0 x4 (x5++[wrap64 ((x4.length:Int) - 1)]) (wrap64 (x6+1))) else (none)) else (spec_TrmRead.l1 k x0 x4 x5 x6)
def spec_TrmRead.l1:Nat→ByteArray→List (S63)→List Int→Int→Option ((List (S63)) × Bool)
 | 0,_,_,_,_=>none
 | k+1,x0,x4,x5,x6=>if x6<(x0.size:Int) then (if 0≤x6 then (if (bt x0 x6)=41 then (spec_TrmRead.j5 k x0 x4 x5 x6 (decide ((x5.length:Int) > 0))) else (spec_TrmRead.j5 k x0 x4 x5 x6 false)) else (none)) else (spec_TrmRead.j5 k x0 x4 x5 x6 false)
def spec_TrmRead.j5:Nat→ByteArray→List (S63)→List Int→Int→Bool→Option ((List (S63)) × Bool)
 | 0,_,_,_,_,_=>none
 | k+1,x0,x4,x5,x6,x95=>if x95=true then (if 0≤(wrap64 ((x5.length:Int) - 1)) then (if (wrap64 ((x5.length:Int) - 1))≤(x5.length:Int) then (spec_TrmRead.l1 k x0 x4 (x5.take ((wrap64 ((x5.length:Int) - 1)):Int).toNat) (wrap64 (x6+1))) else (none)) else (none)) else (if x6<(x0.size:Int) then (if 0≤x6 then (if (bt x0 x6)=44 then (spec_TrmRead.l0 k x0 x4 x5 (wrap64 (x6+1))) else (spec_TrmRead.l0 k x0 x4 x5 x6)) else (none)) else (spec_TrmRead.l0 k x0 x4 x5 x6))
end
def spec_TrmRead.f (k:Nat) (a0:ByteArray):Option ((List (S63)) × Bool):=spec_TrmRead.l0 k a0 (([]:List (S63))) (([]:List Int)) 0
def spec_TrmRead.T9:Bool × List (List Nat × List Nat):=(true,[([],[]),([],[]),([],[]),([2],[2]),([3],[3]),([1,4],[1,4]),([5],[5]),([],[]),([],[]),([],[]),([9],[9]),([10],[10]),([8,11],[8,11]),([12],[12]),([7,13],[7,13]),([14],[14]),([15],[15]),([16],[16]),([0,6,0,1,2,3,4,5,6,7,8,9,10,11,12,13,14,15,16,17],[0,6]),([18,0,1,2,3,4,5,6,7,8,9,10,11,12,13,14,15,16,17],[18]),([19,17,0,1,2,3,4,5,6,7,8,9,10,11,12,13,14,15,16,17],[17,19])])
def spec_TrmRead.B9:List Nat:=[0,0,0,4,12,30,62,0,0,0,512,1536,3840,7936,16256,32640,65408,130944,262143,524287,1048575]
theorem spec_TrmRead.tab9:rtab .any (opsOf Tryz.f44 9)=spec_TrmRead.T9:=by kernel_rfl
theorem spec_TrmRead.bits9:waitsOk spec_TrmRead.T9.2 spec_TrmRead.B9=true:=by kernel_rfl
set_option maxHeartbeats 8000000 in
set_option maxRecDepth 100000 in
theorem spec_TrmRead.calls (k:Nat) (a0:ByteArray) (r1:List (S63)) (r2:Bool) (w:World) (h:spec_TrmRead.f k a0=some (r1,r2)) :
  Calls Tryz.prog 44 #[.string a0] w fun e w'=>∃ v0_:Value,e = .returned (.tuple #[v0_,.bool r2])∧Kd.R k63 63 w' w.heap.size (fun _=>True) v0_ r1∧Below w.heap.size w w':=by
 have hu63:=Tryz.underlying63;have HB:=Aside0.mk (Below.refl w.heap.size w);have H:(spec_TrmRead.l0 k a0 (([]:List (S63))) (([]:List Int)) 0)=some (r1,r2):=h;clear h;obtain ⟨y167,hy167⟩:∃ y_:List (S63),y_=(([]:List (S63))):=⟨_,rfl⟩;replace H:(spec_TrmRead.l0 k a0 y167 (([]:List Int)) 0)=some (r1,r2):=by first|(rw [hy167];exact H)|exact H
 have Ny167:=Aside0.mk hy167;clear hy167;obtain ⟨y170,hy170⟩:∃ y_:List Int,y_=(([]:List Int)):=⟨_,rfl⟩;replace H:(spec_TrmRead.l0 k a0 y167 y170 0)=some (r1,r2):=by first|(rw [hy170];exact H)|exact H
 have Ny170:=Aside0.mk hy170;clear hy170;have H':=Aside0.mk H;clear H;go_enter Tryz.func44,Tryz.ntmps44
 go_wp2_with (first|((with_reducible refine gate_dst (N:=9) rfl ?_);(try (refine gate_guard (by rfl) ?_;dsimp only));refine Kd.R_lit k63 _ 63 ?hg (N:=9) ?hd (xs:=([]:List (S63))) (inner:=[]) (ok:=fun _=>True) (okp:=fun _=>True) ?hr ?hp (fun _ hk=>hk) trivial (Below.refl _ _) (Nat.le_refl _) (by simp) ?_;(case hd=>rfl);(case hg=>rfl);(case hr=>first|(go_simp;done)|(go_simp;rfl));(case hp=>exact (Reps.none _ _));intro v168 w2 ho3 hb hg_ hnew_;clear hg_ hnew_;(first|rw [← Ny167.out] at ho3|(simp only [Int.reduceToNat] at ho3;rw [← Ny167.out] at ho3));have n_:=as2 (Kd.R_lower ho3 (below_size qz3)) (below_step qz3 hb);clear HB;obtain ⟨HO169,HB⟩:=n_;clear hb ho3)|((with_reducible refine gate_dst (N:=10) rfl ?_);(try (refine gate_guard (by rfl) ?_;dsimp only));refine Kd.R_lit (Kd.int .i64) _ 3 ?hg (N:=10) ?hd (xs:=([]:List Int)) (inner:=[]) (ok:=fun _=>True) (okp:=fun _=>True) ?hr ?hp (fun _ hk=>hk) trivial (Below.refl _ _) (Nat.le_refl _) (by simp) ?_;(case hd=>rfl);(case hg=>rfl);(case hr=>first|(go_simp;done)|(go_simp;rfl));(case hp=>exact (Reps.none _ _));intro v171 w4 ho5 hb hg_ hnew_;clear hg_ hnew_;(first|rw [← Ny170.out] at ho5|(simp only [Int.reduceToNat] at ho5;rw [← Ny170.out] at ho5));have n_:=as3 (Kd.R_below (Kd.Rp HO169.out) hb) (Kd.R_lower ho5 (below_size qz3)) (below_step qz3 hb);clear HO169 HB;obtain ⟨HO169,HO172,HB⟩:=n_;clear hb ho5))
 go_loopg [4,5,6] k (fun kq v4 v5 v6 w'=>∃ (x4_1:List (S63)) (x5_1:List Int) (x6_1:Int),v6 = .int .i64 x6_1∧Aside0 (spec_TrmRead.l0 kq a0 x4_1 x5_1 x6_1=some (r1,r2))∧Aside0 (kq≤k)∧Aside0 (Kd.R k63 63 w' w.heap.size (fun _=>True) v4 x4_1)∧Aside0 (Kd.R (Kd.int .i64) 3 w' w.heap.size (fun _=>True) v5 x5_1)∧Aside0 (Below w.heap.size w w'))
 case atStart=>exact ⟨(y167),(y170),(0),qz5,H',⟨Nat.le_refl _⟩,⟨Kd.Rp HO169.out⟩,⟨Kd.Rp HO172.out⟩,⟨qz1⟩⟩
 case round=>
  clear H';obtain ⟨x4_1,x5_1,x6_1,rfl,HA,HK1,HO_4,HO_5,HB⟩:=hrel;cases gk with
  | zero=>exact absurd HA.out (by simp [spec_TrmRead.l0])
  | succ k1=>
   have H:=HA.out;clear HA;simp only [spec_TrmRead.l0] at H;have HC6:=Aside0.mk H;clear H;go_upto_region 4 with (fail)
   go_cut [19] (fun v19 wc=>∃ (kq:Nat) (x19_5:Bool),v19 = .bool x19_5∧Aside0 (spec_TrmRead.j1 kq a0 x4_1 x5_1 x6_1 x19_5=some (r1,r2))∧Aside0 (kq≤k1)∧Aside0 (Kd.R k63 63 wc w.heap.size (fun _=>True) u4 x4_1)∧Aside0 (Kd.R (Kd.int .i64) 3 wc w.heap.size (fun _=>True) u5 x5_1)∧Aside0 (Below w.heap.size w wc))
   case first=>
    have H:=HC6.out;clear HC6;by_cases c7:x6_1<(a0.size:Int)
    ·rw [if_pos c7] at H
     have c7b0:decide (x6_1<(a0.size:Int))=true:=decide_eq_true c7;clear c7;(first|rw [c7b0]|rw [c7b1]|(simp only [i64_w,i32_w];rw [c7b0])|skip);have H':=Aside0.mk H;clear H;obtain ⟨Ao8,co8,eo8⟩:=Kd.R_slice HO_4.out;subst eo8;go_wp2;go_meet
     case rel=>exact ⟨_,(decide ((x4_1.length:Int)<40)),qz5,H',⟨qz45⟩,⟨Kd.Rp HO_4.out⟩,⟨Kd.Rp HO_5.out⟩,⟨qz1⟩⟩
    ·rw [if_neg c7] at H
     have c7b0:decide (x6_1<(a0.size:Int))=false:=decide_eq_false c7;clear c7;(first|rw [c7b0]|rw [c7b1]|(simp only [i64_w,i32_w];rw [c7b0])|skip);have H':=Aside0.mk H;clear H;go_wp2;go_meet
     case rel=>exact ⟨_,(false),qz5,H',⟨qz45⟩,⟨Kd.Rp HO_4.out⟩,⟨Kd.Rp HO_5.out⟩,⟨qz1⟩⟩
   case rest=>
    clear HC6;obtain ⟨kq,x19_5,rfl,HA,HJ5,HO_4,HO_5,HB⟩:=hcut;cases kq with
    | zero=>exact absurd HA.out (by simp [spec_TrmRead.j1])
    | succ kj5=>
     have H:=HA.out;clear HA;simp only [spec_TrmRead.j1] at H;by_cases c9:x19_5=true
     ·subst c9
      have H1:((spec_l1Take.f kj5 a0 x6_1).bind fun bt173=>(if bt173.2.2.2≤x6_1 then (some ((([]:List (S63))),false)) else (if (x5_1.length:Int) > 0 then (if 0≤(wrap64 ((x5_1.length:Int) - 1)) then (if (wrap64 ((x5_1.length:Int) - 1))<(x5_1.length:Int) then (if 0≤(rd x5_1 (wrap64 ((x5_1.length:Int) - 1))) then (if (rd x5_1 (wrap64 ((x5_1.length:Int) - 1)))<(x4_1.length:Int) then (spec_TrmRead.j2 kj5 a0 (x4_1.set ((rd x5_1 (wrap64 ((x5_1.length:Int) - 1))):Int).toNat (⟨(rd_T63 x4_1 (rd x5_1 (wrap64 ((x5_1.length:Int) - 1)))).f0,wrap64 (((rd_T63 x4_1 (rd x5_1 (wrap64 ((x5_1.length:Int) - 1)))).f1)+1),(rd_T63 x4_1 (rd x5_1 (wrap64 ((x5_1.length:Int) - 1)))).f2⟩:S63)) x5_1 bt173.2.2.2 bt173.1 bt173.2.1 bt173.2.2.1) else (none)) else (none)) else (none)) else (none)) else (spec_TrmRead.j2 kj5 a0 x4_1 x5_1 bt173.2.2.2 bt173.1 bt173.2.1 bt173.2.2.1))))=some (r1,r2):=qz26;clear H;have H:=H1;clear H1;replace H:=Option.bind_eq_some_iff.mp H;obtain ⟨⟨t173,t174,t175,t176⟩,A100,H⟩:=H;(try dsimp only at H);have A10:=Aside0.mk A100;clear A100;by_cases c11:t176≤x6_1
      ·rw [if_pos c11] at H
       have c11b0:decide (t176≤x6_1)=true:=decide_eq_true c11;clear c11;obtain ⟨y178,hy178⟩:∃ y_:List (S63),y_=(([]:List (S63))):=⟨_,rfl⟩;replace H:(some (y178,false))=some (r1,r2):=by first|(rw [hy178];exact H)|exact H
       have Ny178:=Aside0.mk hy178;clear hy178;simp only [Option.some.injEq,Prod.mk.injEq] at H;obtain ⟨rfl,rfl⟩:=H
       go_wp2_with (first|(go_at_call 71;(with_reducible refine (spec_l1Take.calls kj5 a0 x6_1 t173 t174 t175 t176 _ A10.out).mono ?_);rintro e w12 ⟨rfl,hb⟩;have n_:=as3 (Kd.R_below (Kd.Rp HO_4.out) hb) (Kd.R_below (Kd.Rp HO_5.out) hb) (below_step qz3 hb);clear HO_4 HO_5 HB;obtain ⟨HO_4,HO_5,HB⟩:=n_;clear hb)|((with_reducible refine gate_dst (N:=7) rfl ?_);(try (refine gate_guard (by rfl) ?_;dsimp only));refine box_event ?hg (N:=7) ?hd (cs:=#[.int .i64 0,.int .i64 0,.string (⟨#[]⟩:ByteArray)]) (t:=63) ?hr ?_;(case hd=>rfl);(case hg=>rfl);(case hr=>first|(go_simp;done)|(go_simp;rfl));intro gb177 hg w13 hbox hb;have n_:=as5 (Kd.R_below (Kd.R_elderB (Kd.Rp HO_4.out) gb177 (Nat.le_of_eq hg.symm)) hb) (Kd.R_below (Kd.Rp HO_5.out) hb) (below_step qz3 hb) (hbox) ((by rw [hg];exact (below_size qz3):w.heap.size≤gb177));clear HO_4 HO_5 HB;obtain ⟨HO_4,HO_5,HB,BK177,GE177⟩:=n_;clear hb hbox hg;obtain ⟨hcz14_0,hcz14_1,hcz14_2,hfz14_0,hfz14_1,hfz14_2⟩:=blk3 BK177.out)|((with_reducible refine gate_dst (N:=29) rfl ?_);(try (refine gate_guard (by rfl) ?_;dsimp only));refine Kd.R_lit k63 _ 63 ?hg (N:=29) ?hd (xs:=([]:List (S63))) (inner:=[]) (ok:=fun _=>True) (okp:=fun _=>True) ?hr ?hp (fun _ hk=>hk) trivial (Below.refl _ _) (Nat.le_refl _) (by simp) ?_;(case hd=>rfl);(case hg=>rfl);(case hr=>first|(go_simp;done)|(go_simp;rfl));(case hp=>exact (Reps.none _ _));intro v179 w15 ho16 hb hg_ hnew_;clear hg_ hnew_;(first|rw [← Ny178.out] at ho16|(simp only [Int.reduceToNat] at ho16;rw [← Ny178.out] at ho16));have n_:=as5 (Kd.R_elder' (Kd.Rp (Kd.R_mono (Kd.R_far (p:=⟨gb177,2,none⟩) (Kd.R_far (p:=⟨gb177,1,none⟩) (Kd.R_far (p:=⟨gb177,0,none⟩) (Kd.R_mono HO_4.out (fun k_ hk=>(⟨hk,hk.2⟩:_∧k_≠gb177))) (fun _ hk=>hk.2) (.int .i64 t173)) (fun _ hk=>hk.2) (.int .i64 t174)) (fun _ hk=>hk.2) (.string t175)) (fun _ h_=>h_.1))) (Kd.R_base ho16) hb) (Kd.R_below (Kd.Rp (Kd.R_mono (Kd.R_far (p:=⟨gb177,2,none⟩) (Kd.R_put2 HO_5.out BK177.out) (fun _ hk=>hk.2) (.string t175)) (fun _ h_=>h_.1))) hb) (Kd.R_lower (Kd.R_newB (Kd.R_new' ho16 (Kd.R_lt (Kd.Rp (Kd.R_mono (Kd.R_far (p:=⟨gb177,2,none⟩) (Kd.R_far (p:=⟨gb177,1,none⟩) (Kd.R_far (p:=⟨gb177,0,none⟩) (Kd.R_mono HO_4.out (fun k_ hk=>(⟨hk,hk.2⟩:_∧k_≠gb177))) (fun _ hk=>hk.2) (.int .i64 t173)) (fun _ hk=>hk.2) (.int .i64 t174)) (fun _ hk=>hk.2) (.string t175)) (fun _ h_=>h_.1))))) (g:=gb177) (o:=.cells #[.int .i64 t173,.int .i64 t174,.string t175] 63 (0,0)) (blkp (blk_put (cs:=#[.int .i64 t173,.int .i64 t174,.string (⟨#[]⟩:ByteArray)]) (blk_put (cs:=#[.int .i64 t173,.int .i64 0,.string (⟨#[]⟩:ByteArray)]) (blk_put (cs:=#[.int .i64 0,.int .i64 0,.string (⟨#[]⟩:ByteArray)]) BK177.out 0 _ rfl) 1 _ rfl) 2 _ rfl))) (below_size qz13)) (blk_below (blkp (blk_put (cs:=#[.int .i64 t173,.int .i64 t174,.string (⟨#[]⟩:ByteArray)]) (blk_put (cs:=#[.int .i64 t173,.int .i64 0,.string (⟨#[]⟩:ByteArray)]) (blk_put (cs:=#[.int .i64 0,.int .i64 0,.string (⟨#[]⟩:ByteArray)]) BK177.out 0 _ rfl) 1 _ rfl) 2 _ rfl)) hb) (below_step qz13 hb);clear HO_4 HO_5 BK177 HB;obtain ⟨HO_4,HO_5,HO180,BK177,HB⟩:=n_;clear hb ho16))
       go_ret2;exact ⟨_,qz2,by (with_reducible repeat (first|apply Kd.R_alloc|apply Kd.R_drewN|apply Kd.R_drew));exact Kd.R_mono HO180.out (fun _ hk=>trivial),qz13⟩
      ·rw [if_neg c11] at H
       have c11b0:decide (t176≤x6_1)=false:=decide_eq_false c11;clear c11;have HC17:=Aside0.mk H;clear H;go_upto_if 32 with (first|(go_at_call 71;(with_reducible refine (spec_l1Take.calls kj5 a0 x6_1 t173 t174 t175 t176 _ A10.out).mono ?_);rintro e w18 ⟨rfl,hb⟩;have n_:=as3 (Kd.R_below (Kd.Rp HO_4.out) hb) (Kd.R_below (Kd.Rp HO_5.out) hb) (below_step qz3 hb);clear HO_4 HO_5 HB;obtain ⟨HO_4,HO_5,HB⟩:=n_;clear hb)|((with_reducible refine gate_dst (N:=7) rfl ?_);(try (refine gate_guard (by rfl) ?_;dsimp only));refine box_event ?hg (N:=7) ?hd (cs:=#[.int .i64 0,.int .i64 0,.string (⟨#[]⟩:ByteArray)]) (t:=63) ?hr ?_;(case hd=>rfl);(case hg=>rfl);(case hr=>first|(go_simp;done)|(go_simp;rfl));intro gb177 hg w19 hbox hb;have n_:=as5 (Kd.R_below (Kd.R_elderB (Kd.Rp HO_4.out) gb177 (Nat.le_of_eq hg.symm)) hb) (Kd.R_below (Kd.Rp HO_5.out) hb) (below_step qz3 hb) (hbox) ((by rw [hg];exact (below_size qz3):w.heap.size≤gb177));clear HO_4 HO_5 HB;obtain ⟨HO_4,HO_5,HB,BK177,GE177⟩:=n_;clear hb hbox hg;obtain ⟨hcz20_0,hcz20_1,hcz20_2,hfz20_0,hfz20_1,hfz20_2⟩:=blk3 BK177.out;obtain ⟨Ao21,co21,eo21⟩:=Kd.R_slice HO_5.out;subst eo21))
       (try simp only [Act.put,sA_,sZ_,sS_]);go_cut [] (fun wc=>∃ (kq:Nat) (x4_16:List (S63)) (x178001_16:Int),Aside0 (spec_TrmRead.j2 kq a0 x4_16 x5_1 t176 t173 x178001_16 t175=some (r1,r2))∧Aside0 (kq≤kj5)∧Aside0 (Kd.R k63 63 wc w.heap.size (fun k_=>k_≠gb177) u4 x4_16)∧Aside0 (Kd.R (Kd.int .i64) 3 wc w.heap.size (fun _=>True) (.slice Ao21 x5_1.length co21) x5_1)∧Aside0 (wc.heap[gb177]?=some (.cells #[.int .i64 t173,.int .i64 x178001_16,.string t175] 63 (0,0)))∧Aside0 (Below w.heap.size w wc))
       case first=>
        have H:=HC17.out;clear HC17;by_cases c22:(x5_1.length:Int) > 0
        ·rw [if_pos c22] at H
         have c22b0:decide (0<(x5_1.length:Int))=true:=decide_eq_true c22;have c22b1:decide (0<x5_1.length)=true:=decide_eq_true (by omega);clear c22;(first|rw [c22b0]|rw [c22b1]|(simp only [i64_w,i32_w];rw [c22b0])|skip);obtain ⟨ji23,hji23⟩:∃ j_:Int,(wrap64 ((x5_1.length:Int) - 1))=j_:=⟨_,rfl⟩;replace H:(if 0≤(ji23) then (if (ji23)<(x5_1.length:Int) then (if 0≤(rd x5_1 (ji23)) then (if (rd x5_1 (ji23))<(x4_1.length:Int) then (spec_TrmRead.j2 kj5 a0 (x4_1.set ((rd x5_1 (ji23)):Int).toNat (⟨(rd_T63 x4_1 (rd x5_1 (ji23))).f0,wrap64 (((rd_T63 x4_1 (rd x5_1 (ji23))).f1)+1),(rd_T63 x4_1 (rd x5_1 (ji23))).f2⟩:S63)) x5_1 t176 t173 t174 t175) else (none)) else (none)) else (none)) else (none))=some (r1,r2):=by first|(rw [hji23] at H;exact H)|(simp only [hji23] at H ⊢;exact H)
         have hji23w:(IntKind.i64.wrap ((x5_1.length:Int) - 1))=ji23:=(i64_w _).trans hji23;by_cases c24:0≤(ji23)
         ·rw [if_pos c24] at H
          have c24b0:decide (0≤(ji23))=true:=decide_eq_true c24;clear c24;by_cases c25:(ji23)<(x5_1.length:Int)
          ·rw [if_pos c25] at H
           have c25b0:decide ((ji23)<(x5_1.length:Int))=true:=decide_eq_true c25;clear c25;by_cases c26:0≤(rd x5_1 (ji23))
           ·rw [if_pos c26] at H
            have c26b0:decide (0≤(rd x5_1 (ji23)))=true:=decide_eq_true c26;clear c26;by_cases c27:(rd x5_1 (ji23))<(x4_1.length:Int)
            ·rw [if_pos c27] at H
             have c27b0:decide ((rd x5_1 (ji23))<(x4_1.length:Int))=true:=decide_eq_true c27;clear c27;obtain ⟨y184,hy184⟩:∃ y_:List (S63),y_=(x4_1.set ((rd x5_1 (ji23)):Int).toNat (⟨(rd_T63 x4_1 (rd x5_1 (ji23))).f0,wrap64 (((rd_T63 x4_1 (rd x5_1 (ji23))).f1)+1),(rd_T63 x4_1 (rd x5_1 (ji23))).f2⟩:S63)):=⟨_,rfl⟩;replace H:(spec_TrmRead.j2 kj5 a0 y184 x5_1 t176 t173 t174 t175)=some (r1,r2):=by first|(rw [hy184];exact H)|exact H
             have Ny184:=Aside0.mk hy184;clear hy184;have H':=Aside0.mk H;clear H;(try go_wp2);have n0_:Aside0 (Kd.R k63 63 (((w19.setCell ⟨gb177,0,none⟩ (.int .i64 t173)).setCell ⟨gb177,1,none⟩ (.int .i64 t174)).setCell ⟨gb177,2,none⟩ (.string t175)) w.heap.size (fun k_=>k_≠gb177) u4 x4_1):=⟨Kd.Rp (Kd.R_mono (Kd.R_far (p:=⟨gb177,2,none⟩) (Kd.R_far (p:=⟨gb177,1,none⟩) (Kd.R_far (p:=⟨gb177,0,none⟩) (Kd.R_mono HO_4.out (fun k_ hk=>(⟨hk,hk.2⟩:_∧k_≠gb177))) (fun _ hk=>hk.2) (.int .i64 t173)) (fun _ hk=>hk.2) (.int .i64 t174)) (fun _ hk=>hk.2) (.string t175)) (fun _ hk=>hk.1.2))⟩;have n1_:Aside0 (Kd.R (Kd.int .i64) 3 (((w19.setCell ⟨gb177,0,none⟩ (.int .i64 t173)).setCell ⟨gb177,1,none⟩ (.int .i64 t174)).setCell ⟨gb177,2,none⟩ (.string t175)) w.heap.size (fun _=>True) (.slice Ao21 x5_1.length co21) x5_1):=⟨Kd.Rp (Kd.R_mono (Kd.R_far (p:=⟨gb177,2,none⟩) (Kd.R_put2 HO_5.out BK177.out) (fun _ hk=>hk.2) (.string t175)) (fun _ hk=>trivial))⟩;have n2_:Aside0 ((((w19.setCell ⟨gb177,0,none⟩ (.int .i64 t173)).setCell ⟨gb177,1,none⟩ (.int .i64 t174)).setCell ⟨gb177,2,none⟩ (.string t175)).heap[gb177]?=some (.cells #[.int .i64 t173,.int .i64 t174,.string t175] 63 (0,0))):=⟨blkp (blk_put (cs:=#[.int .i64 t173,.int .i64 t174,.string (⟨#[]⟩:ByteArray)]) (blk_put (cs:=#[.int .i64 t173,.int .i64 0,.string (⟨#[]⟩:ByteArray)]) (blk_put (cs:=#[.int .i64 0,.int .i64 0,.string (⟨#[]⟩:ByteArray)]) BK177.out 0 _ rfl) 1 _ rfl) 2 _ rfl)⟩;have n3_:Aside0 (Below w.heap.size w (((w19.setCell ⟨gb177,0,none⟩ (.int .i64 t173)).setCell ⟨gb177,1,none⟩ (.int .i64 t174)).setCell ⟨gb177,2,none⟩ (.string t175))):=⟨qz13⟩;(try clear HO_4);(try clear HO_5);(try clear BK177);(try clear HB)
             generalize (((w19.setCell ⟨gb177,0,none⟩ (.int .i64 t173)).setCell ⟨gb177,1,none⟩ (.int .i64 t174)).setCell ⟨gb177,2,none⟩ (.string t175))=w29 at n0_ n1_ n2_ n3_ ⊢
             have HO_4:=n0_;have HO_5:=n1_;have BK177:=n2_;have HB:=n3_;clear n0_ n1_ n2_ n3_;have n_:=as4 (Kd.R_drew HO_4.out) (Kd.R_drew HO_5.out) (blk_drew BK177.out) (below_drew1 HB.out);clear HO_4 HO_5 BK177 HB;obtain ⟨HO_4,HO_5,BK177,HB⟩:=n_;have p181:0≤((ji23):Int):=of_decide_eq_true qz4;have q181:(ji23)<(x5_1.length:Int):=of_decide_eq_true qz4;obtain ⟨ad181,e181,hx181_0⟩:=Kd.at_int (Kd.R_reads' HO_5.out).2.2 (ji23) p181 q181;cases e181
             replace p181:=eq_true p181;replace q181:=eq_true q181;have p182:0≤((ji23):Int):=of_decide_eq_true qz4;have q182:(ji23)<(x5_1.length:Int):=of_decide_eq_true qz4;obtain ⟨ad182,e182,hx182_0⟩:=Kd.at_int (Kd.R_reads' HO_5.out).2.2 (ji23) p182 q182;obtain rfl:ad181=ad182:=(by injection e182);replace p182:=eq_true p182;replace q182:=eq_true q182;obtain ⟨Ao31,co31,eo31⟩:=Kd.R_slice HO_4.out;(first|subst eo31|(injection eo31 with f1_ f2_ f3_;have f4_:=f1_.symm;have f5_:=f3_.symm;clear f1_ f2_ f3_;subst f4_;subst f5_));have p183:0≤((rd x5_1 (ji23)):Int):=of_decide_eq_true qz4;have q183:(rd x5_1 (ji23))<(x4_1.length:Int):=of_decide_eq_true qz4;obtain ⟨ad183,e183,hx183_0,hx183_1,hx183_2⟩:=at_T63 (Kd.R_reads' HO_4.out).2.2 (rd x5_1 (ji23)) p183 q183;cases e183
             replace p183:=eq_true p183;replace q183:=eq_true q183;have p28:0≤((rd x5_1 (ji23)):Int):=of_decide_eq_true qz4;have q28:((rd x5_1 (ji23)):Int)<((x4_1.length:Int):Int):=of_decide_eq_true qz4;obtain ⟨go28,co28,eo28,gb28,gl28,cl28,HG28⟩:=Kd.R_form HO_4.out (by omega);(first|cases eo28|(injection eo28 with ea_ en_ ec_;(first|subst ea_|(injection ea_ with ea_;subst ea_));subst ec_;clear en_));have GB28:=Aside0.mk gb28;have GG28:=Aside0.mk HG28;clear gb28 gl28 HG28;(first|simp only [add_plain] at hx183_0|skip);(first|simp only [add_plain] at hx183_1|skip);(first|simp only [add_plain] at hx183_2|skip);obtain ⟨ce28,hcl28,hM28,hcc28,hfr28⟩:=Kd.R_elem HO_4.out z63 ((rd x5_1 (ji23)):Int) p28 q28;obtain rfl:=k63_openM hM28;have hx28_0:World.cell? _ ⟨go28,((rd x5_1 (ji23)):Int).toNat * 3,none⟩=some (.int .i64 ((rd_T63 x4_1 (rd x5_1 (ji23))).f0)):=hcc28 0 _ rfl;have hx28_1:World.cell? _ ⟨go28,((rd x5_1 (ji23)):Int).toNat * 3+1,none⟩=some (.int .i64 ((rd_T63 x4_1 (rd x5_1 (ji23))).f1)):=hcc28 1 _ rfl;have hx28_2:World.cell? _ ⟨go28,((rd x5_1 (ji23)):Int).toNat * 3+2,none⟩=some (.string ((rd_T63 x4_1 (rd x5_1 (ji23))).f2)):=hcc28 2 _ rfl;have hf28_0:World.frozen? _ ⟨go28,((rd x5_1 (ji23)):Int).toNat * 3,none⟩=false:=hfr28 0;have hf28_1:World.frozen? _ ⟨go28,((rd x5_1 (ji23)):Int).toNat * 3+1,none⟩=false:=hfr28 1;have hf28_2:World.frozen? _ ⟨go28,((rd x5_1 (ji23)):Int).toNat * 3+2,none⟩=false:=hfr28 2;(try clear hcl28);(try clear hcc28);(try clear hfr28);(try clear hM28);replace p28:=eq_true p28;replace q28:=eq_true q28;obtain ⟨ce32,hcl32,hM32,hcc32,hfr32⟩:=Kd.R_elem HO_4.out z63 ((rd x5_1 (ji23)):Int) (of_decide_eq_true qz4) (by have h_:((rd x5_1 (ji23)):Int)<((x4_1.length:Int):Int):=of_decide_eq_true qz4;first|exact h_|(have e_:=(Kd.R_reads' HO_4.out).1;omega)|simpa using h_);obtain rfl:=k63_openM hM32;have HP32:=(Kd.R_seg HO_4.out ((rd x5_1 (ji23)):Int) (of_decide_eq_true qz4) (by have h_:((rd x5_1 (ji23)):Int)<((x4_1.length:Int):Int):=of_decide_eq_true qz4;first|exact h_|(have e_:=(Kd.R_reads' HO_4.out).1;omega)|simpa using h_) (seg:=[.int .i64 (wrap64 (((rd_T63 x4_1 (rd x5_1 (ji23))).f1)+1))]) (j:=1) hcl32 hcc32 (show 2≤3 from by decide) (x':=(⟨(rd_T63 x4_1 (rd x5_1 (ji23))).f0,wrap64 (((rd_T63 x4_1 (rd x5_1 (ji23))).f1)+1),(rd_T63 x4_1 (rd x5_1 (ji23))).f2⟩:S63)) (k63_mkM _ _ _ (⟨(rd_T63 x4_1 (rd x5_1 (ji23))).f0,wrap64 (((rd_T63 x4_1 (rd x5_1 (ji23))).f1)+1),(rd_T63 x4_1 (rd x5_1 (ji23))).f2⟩:S63) ) (fun _ hk=>hk)).1;rw [← Ny184.out] at HP32;have HQ32:=Aside0.mk HP32;(try clear hcl32);(try clear hcc32);(try clear hfr32);(try clear hM32);(try clear HP32);refine start_ (n:=21) (S:=fun w'=>w'.cell? (ad181.add ((ji23)).toNat)=some (.int .i64 (rd x5_1 (ji23)))∧w'.cell? (ad181.add ((ji23)).toNat)=some (.int .i64 (rd x5_1 (ji23)))∧w'.cell? (⟨go28,((rd x5_1 (ji23))).toNat * 3,none⟩:Addr)=some (.int .i64 ((rd_T63 x4_1 (rd x5_1 (ji23))).f0))∧w'.cell? (⟨go28,((rd x5_1 (ji23))).toNat * 3+1,none⟩:Addr)=some (.int .i64 ((rd_T63 x4_1 (rd x5_1 (ji23))).f1))∧w'.cell? (⟨go28,((rd x5_1 (ji23))).toNat * 3+2,none⟩:Addr)=some (.string ((rd_T63 x4_1 (rd x5_1 (ji23))).f2))) (ds:=[20]) #[false,false,false,false,false,false,false,false,false,false,false,false,false,false,false,false,false,false,false,false,false] (by kernel_rfl) rfl rfl ⟨hx181_0,hx182_0,hx183_0,hx183_1,hx183_2⟩ (fun hHeld=>?_);refine with_tabW spec_TrmRead.tab9 spec_TrmRead.bits9 (fun HT_ HW_=>?_)
             generalize w29.drew=w30 at HO_4 HO_5 BK177 HB GG28 HQ32 hf28_0 hf28_1 hf28_2 hx181_0 hx182_0 hx183_0 hx183_1 hx183_2 hx28_0 hx28_1 hx28_2 hHeld ⊢
             refine pure_ (i:=0) (N:=some 33) (v:=?_) (a':=?_) #[true,false,false,false,false,false,false,false,false,false,false,false,false,false,false,false,false,false,false,false,false] rfl rfl (any_of HT_.out (by kernel_rfl)) (fun _ _ _ h=>h) (Or.inl ⟨by rfl,?_⟩) ?_ ?_;rotate_left
             ·intro w'
              go_simp;with_reducible rfl
             rotate_left
             ·simp only [Act.put,sA_,sZ_,sS_,i64_w,i32_w]
              rfl
             refine pure_ (i:=1) (N:=some 34) (v:=?_) (a':=?_) #[true,true,false,false,false,false,false,false,false,false,false,false,false,false,false,false,false,false,false,false,false] rfl rfl (any_of HT_.out (by kernel_rfl)) (fun _ _ _ h=>h) (Or.inl ⟨by rfl,?_⟩) ?_ ?_;rotate_left
             ·intro w'
              go_simp;with_reducible rfl
             rotate_left
             ·simp only [Act.put,sA_,sZ_,sS_,i64_w,i32_w]
              rfl
             refine pure_ (i:=2) (N:=some 35) (v:=?_) (a':=?_) #[true,true,true,false,false,false,false,false,false,false,false,false,false,false,false,false,false,false,false,false,false] rfl rfl (any_of HT_.out (by kernel_rfl)) (fun _ _ _ h=>h) (Or.inl ⟨by rfl,?_⟩) ?_ ?_;rotate_left
             ·intro w'
              go_simp;with_reducible rfl
             rotate_left
             ·simp only [Act.put,sA_,sZ_,sS_,i64_w,i32_w]
              rfl
             refine pure_ (i:=3) (N:=some 36) (v:=?_) (a':=?_) #[true,true,true,true,false,false,false,false,false,false,false,false,false,false,false,false,false,false,false,false,false] rfl rfl (any_of HT_.out (by kernel_rfl)) (fun _ _ _ h=>h) (Or.inl ⟨by rfl,?_⟩) ?_ ?_;rotate_left
             ·intro w'
              go_simp;with_reducible rfl
             rotate_left
             ·simp only [Act.put,sA_,sZ_,sS_,i64_w,i32_w]
              rfl
             refine pure_ (i:=4) (N:=some 37) (v:=?_) (a':=?_) #[true,true,true,true,true,false,false,false,false,false,false,false,false,false,false,false,false,false,false,false,false] rfl rfl (any_of HT_.out (by kernel_rfl)) (fun _ _ _ h=>h) (Or.inl ⟨by rfl,?_⟩) ?_ ?_;rotate_left
             ·intro w'
              go_simp;with_reducible rfl
             rotate_left
             ·simp only [Act.put,sA_,sZ_,sS_,i64_w,i32_w]
              rfl
             refine pure_ (i:=5) (N:=some 38) (v:=?_) (a':=?_) #[true,true,true,true,true,true,false,false,false,false,false,false,false,false,false,false,false,false,false,false,false] rfl rfl (any_of HT_.out (by kernel_rfl)) (fun _ _ _ h=>h) (Or.inl ⟨by rfl,?_⟩) ?_ ?_;rotate_left
             ·intro w'
              go_simp;with_reducible rfl
             rotate_left
             ·simp only [Act.put,sA_,sZ_,sS_,i64_w,i32_w]
              rfl
             refine pure_ (i:=7) (N:=some 40) (v:=?_) (a':=?_) #[true,true,true,true,true,true,false,true,false,false,false,false,false,false,false,false,false,false,false,false,false] rfl rfl (any_of HT_.out (by kernel_rfl)) (fun _ _ _ h=>h) (Or.inl ⟨by rfl,?_⟩) ?_ ?_;rotate_left
             ·intro w'
              go_simp;with_reducible rfl
             rotate_left
             ·simp only [Act.put,sA_,sZ_,sS_,i64_w,i32_w]
              rfl
             refine pure_ (i:=8) (N:=some 41) (v:=?_) (a':=?_) #[true,true,true,true,true,true,false,true,true,false,false,false,false,false,false,false,false,false,false,false,false] rfl rfl (any_of HT_.out (by kernel_rfl)) (fun _ _ _ h=>h) (Or.inl ⟨by rfl,?_⟩) ?_ ?_;rotate_left
             ·intro w'
              go_simp;with_reducible rfl
             rotate_left
             ·simp only [Act.put,sA_,sZ_,sS_,i64_w,i32_w]
              rfl
             refine pure_ (i:=9) (N:=some 42) (v:=?_) (a':=?_) #[true,true,true,true,true,true,false,true,true,true,false,false,false,false,false,false,false,false,false,false,false] rfl rfl (any_of HT_.out (by kernel_rfl)) (fun _ _ _ h=>h) (Or.inl ⟨by rfl,?_⟩) ?_ ?_;rotate_left
             ·intro w'
              go_simp;with_reducible rfl
             rotate_left
             ·simp only [Act.put,sA_,sZ_,sS_,i64_w,i32_w]
              rfl
             refine pure_ (i:=10) (N:=some 43) (v:=?_) (a':=?_) #[true,true,true,true,true,true,false,true,true,true,true,false,false,false,false,false,false,false,false,false,false] rfl rfl (any_of HT_.out (by kernel_rfl)) (fun _ _ _ h=>h) (Or.inl ⟨by rfl,?_⟩) ?_ ?_;rotate_left
             ·intro w'
              go_simp;with_reducible rfl
             rotate_left
             ·simp only [Act.put,sA_,sZ_,sS_,i64_w,i32_w]
              rfl
             refine pure_ (i:=11) (N:=some 44) (v:=?_) (a':=?_) #[true,true,true,true,true,true,false,true,true,true,true,true,false,false,false,false,false,false,false,false,false] rfl rfl (any_of HT_.out (by kernel_rfl)) (fun _ _ _ h=>h) (Or.inl ⟨by rfl,?_⟩) ?_ ?_;rotate_left
             ·intro w'
              go_simp;with_reducible rfl
             rotate_left
             ·simp only [Act.put,sA_,sZ_,sS_,i64_w,i32_w]
              rfl
             refine pure_ (i:=12) (N:=some 45) (v:=?_) (a':=?_) #[true,true,true,true,true,true,false,true,true,true,true,true,true,false,false,false,false,false,false,false,false] rfl rfl (any_of HT_.out (by kernel_rfl)) (fun _ _ _ h=>h) (Or.inl ⟨by rfl,?_⟩) ?_ ?_;rotate_left
             ·intro w'
              go_simp;with_reducible rfl
             rotate_left
             ·simp only [Act.put,sA_,sZ_,sS_,i64_w,i32_w]
              rfl
             refine take_ (i:=6) (N:=some 39) (v:=?_) (a':=?_) #[true,true,true,true,true,true,true,true,true,true,true,true,true,false,false,false,false,false,false,false,false] rfl rfl (take_ofW HT_.out HW_.out (by kernel_rfl)) (fun _ _ _ h=>h) (Or.inl ⟨by rfl,?_⟩) hHeld ?_ ?_;rotate_left
             ·rintro w' ⟨s0,s1,s2,s3,s4⟩
              go_simp;with_reducible rfl
             rotate_left
             ·simp only [Act.put,sA_,sZ_,sS_,i64_w,i32_w]
              rfl
             refine take_ (i:=13) (N:=some 46) (v:=?_) (a':=?_) #[true,true,true,true,true,true,true,true,true,true,true,true,true,true,false,false,false,false,false,false,false] rfl rfl (take_ofW HT_.out HW_.out (by kernel_rfl)) (fun _ _ _ h=>h) (Or.inl ⟨by rfl,?_⟩) hHeld ?_ ?_;rotate_left
             ·rintro w' ⟨s0,s1,s2,s3,s4⟩
              go_simp;with_reducible rfl
             rotate_left
             ·simp only [Act.put,sA_,sZ_,sS_,i64_w,i32_w]
              rfl
             refine pure_ (i:=14) (N:=some 47) (v:=?_) (a':=?_) #[true,true,true,true,true,true,true,true,true,true,true,true,true,true,true,false,false,false,false,false,false] rfl rfl (any_of HT_.out (by kernel_rfl)) (fun _ _ _ h=>h) (Or.inl ⟨by rfl,?_⟩) ?_ ?_;rotate_left
             ·intro w'
              go_simp;with_reducible rfl
             rotate_left
             ·simp only [Act.put,sA_,sZ_,sS_,i64_w,i32_w]
              rfl
             refine pure_ (i:=15) (N:=some 48) (v:=?_) (a':=?_) #[true,true,true,true,true,true,true,true,true,true,true,true,true,true,true,true,false,false,false,false,false] rfl rfl (any_of HT_.out (by kernel_rfl)) (fun _ _ _ h=>h) (Or.inl ⟨by rfl,?_⟩) ?_ ?_;rotate_left
             ·intro w'
              go_simp;with_reducible rfl
             rotate_left
             ·simp only [Act.put,sA_,sZ_,sS_,i64_w,i32_w]
              rfl
             refine take_ (i:=16) (N:=some 49) (v:=?_) (a':=?_) #[true,true,true,true,true,true,true,true,true,true,true,true,true,true,true,true,true,false,false,false,false] rfl rfl (take_ofW HT_.out HW_.out (by kernel_rfl)) (fun _ _ _ h=>h) (Or.inl ⟨by rfl,?_⟩) hHeld ?_ ?_;rotate_left
             ·rintro w' ⟨s0,s1,s2,s3,s4⟩
              go_simp;with_reducible rfl
             rotate_left
             ·simp only [Act.put,sA_,sZ_,sS_,i64_w,i32_w]
              rfl
             refine pure_ (i:=17) (N:=some 50) (v:=?_) (a':=?_) #[true,true,true,true,true,true,true,true,true,true,true,true,true,true,true,true,true,true,false,false,false] rfl rfl (any_of HT_.out (by kernel_rfl)) (fun _ _ _ h=>h) (Or.inl ⟨by rfl,?_⟩) ?_ ?_;rotate_left
             ·intro w'
              go_simp;with_reducible rfl
             rotate_left
             ·simp only [Act.put,sA_,sZ_,sS_,i64_w,i32_w]
              rfl
             refine pure_ (i:=18) (N:=some 51) (v:=?_) (a':=?_) #[true,true,true,true,true,true,true,true,true,true,true,true,true,true,true,true,true,true,true,false,false] rfl rfl (any_of HT_.out (by kernel_rfl)) (fun _ _ _ h=>h) (Or.inl ⟨by rfl,?_⟩) ?_ ?_;rotate_left
             ·intro w'
              go_simp;with_reducible rfl
             rotate_left
             ·simp only [Act.put,sA_,sZ_,sS_,i64_w,i32_w]
              rfl
             refine pure_ (i:=19) (N:=some 52) (v:=?_) (a':=?_) #[true,true,true,true,true,true,true,true,true,true,true,true,true,true,true,true,true,true,true,true,false] rfl rfl (any_of HT_.out (by kernel_rfl)) (fun _ _ _ h=>h) (Or.inl ⟨by rfl,?_⟩) ?_ ?_;rotate_left
             ·intro w'
              go_simp;with_reducible rfl
             rotate_left
             ·simp only [Act.put,sA_,sZ_,sS_,i64_w,i32_w]
              rfl
             refine last_ (i:=20) (N:=none) #[true,true,true,true,true,true,true,true,true,true,true,true,true,true,true,true,true,true,true,true,true] rfl rfl (one_of HT_.out (by kernel_rfl)) (by decide) (fun K hK=>?_);refine skip_ (w1:=?_) (by rfl) rfl ?_ ?_;rotate_left
             ·go_simp
              rfl
             refine hK.out _ _ ?_;clear hK K;refine done_ (done_of HT_.out (by kernel_rfl)) ?_;(try go_wp2);go_meet
             case rel=>exact ⟨_,(y184),(t174),H',⟨by have:=HK1.out;have:=HJ5.out;first|omega|exact Nat.le_refl _⟩,⟨Kd.Rp HQ32.out⟩,⟨Kd.Rp (Kd.R_mono (Kd.R_far (p:=⟨go28,((rd x5_1 (ji23)):Int).toNat * 3+1,none⟩) (Kd.R_types HO_5.out GG28.out (by decide)) (fun _ hk=>hk.2) (.int .i64 (wrap64 (((rd_T63 x4_1 (rd x5_1 (ji23))).f1)+1)))) (fun _ hk=>trivial))⟩,⟨by (with_reducible repeat (first|refine blk_drewN ?_ _|refine blk_drew ?_|refine blk_alloc ?_ _));refine blk_far ?_ (by have h_:=Kd.R_away HO_4.out (fun _ hk=>hk);intro e_;exact h_ (by rw [e_];rfl)) _;(with_reducible repeat (first|refine blk_drewN ?_ _|refine blk_drew ?_|refine blk_alloc ?_ _));exact BK177.out⟩,⟨by repeat (first|(with_reducible first|exact HB.out|apply below_alloc|apply pw_below_drewN|apply below_drew1|refine below_set ?_ GB28.out|refine below_set ?_ GE177.out)|exact HB.out)⟩⟩
            ·rw [if_neg c27] at H
             exact absurd H (by simp)
           ·rw [if_neg c26] at H
            exact absurd H (by simp)
          ·rw [if_neg c25] at H
           exact absurd H (by simp)
         ·rw [if_neg c24] at H
          exact absurd H (by simp)
        ·rw [if_neg c22] at H
         have c22b0:decide (0<(x5_1.length:Int))=false:=decide_eq_false c22;have c22b1:decide (0<x5_1.length)=false:=decide_eq_false (by omega);clear c22;(first|rw [c22b0]|rw [c22b1]|(simp only [i64_w,i32_w];rw [c22b0])|skip);have H':=Aside0.mk H;clear H;go_wp2;go_meet
         case rel=>exact ⟨_,(x4_1),(t174),H',⟨by have:=HK1.out;have:=HJ5.out;first|omega|exact Nat.le_refl _⟩,⟨Kd.Rp (Kd.R_mono (Kd.R_far (p:=⟨gb177,2,none⟩) (Kd.R_far (p:=⟨gb177,1,none⟩) (Kd.R_far (p:=⟨gb177,0,none⟩) (Kd.R_mono HO_4.out (fun k_ hk=>(⟨hk,hk.2⟩:_∧k_≠gb177))) (fun _ hk=>hk.2) (.int .i64 t173)) (fun _ hk=>hk.2) (.int .i64 t174)) (fun _ hk=>hk.2) (.string t175)) (fun _ hk=>hk.1.2))⟩,⟨Kd.Rp (Kd.R_mono (Kd.R_far (p:=⟨gb177,2,none⟩) (Kd.R_put2 HO_5.out BK177.out) (fun _ hk=>hk.2) (.string t175)) (fun _ hk=>trivial))⟩,⟨blkp (blk_put (cs:=#[.int .i64 t173,.int .i64 t174,.string (⟨#[]⟩:ByteArray)]) (blk_put (cs:=#[.int .i64 t173,.int .i64 0,.string (⟨#[]⟩:ByteArray)]) (blk_put (cs:=#[.int .i64 0,.int .i64 0,.string (⟨#[]⟩:ByteArray)]) BK177.out 0 _ rfl) 1 _ rfl) 2 _ rfl)⟩,⟨qz13⟩⟩
       case rest=>
        clear HC17;(try clear c9);(try clear c11);(try clear c11b0);(try clear hcz20_0);(try clear hcz20_1);(try clear hcz20_2);(try clear hfz20_0);(try clear hfz20_1);(try clear hfz20_2);obtain ⟨kq,x4_16,x178001_16,HA,HJ16,HO_4,HO_5,BK177,HB⟩:=hcut;cases kq with
        | zero=>exact absurd HA.out (by simp [spec_TrmRead.j2])
        | succ kj16=>
         have H:=HA.out;clear HA;simp only [spec_TrmRead.j2] at H;by_cases c33:x4_16.length<4398046511104
         ·rw [if_pos c33] at H
          have LMc33:=Aside0.mk c33;clear c33;obtain ⟨y185,hy185⟩:∃ y_:List (S63),y_=(x4_16++[(⟨t173,x178001_16,t175⟩:S63)]):=⟨_,rfl⟩;replace H:(if t173=3 then (if t176<(a0.size:Int) then (if 0≤t176 then (spec_TrmRead.j3 kj16 a0 y185 x5_1 t176 ((bt a0 t176) == 40)) else (none)) else (spec_TrmRead.j3 kj16 a0 y185 x5_1 t176 false)) else (spec_TrmRead.j3 kj16 a0 y185 x5_1 t176 false))=some (r1,r2):=by first|(rw [hy185];exact H)|exact H
          have Ny185:=Aside0.mk hy185;clear hy185;have HC34:=Aside0.mk H;clear H;obtain ⟨hcz35_0,hcz35_1,hcz35_2,hfz35_0,hfz35_1,hfz35_2⟩:=blk3 BK177.out;go_upto_region 12 with (first|((with_reducible refine gate_builtin (b:=.append) (xs:=#[.tmp 53,.tmp 55]) rfl ?_);(try (refine gate_guard (by rfl) ?_;dsimp only));at_builtin;refine Kd.R_append k63 (w0:=w) w.heap.size rfl (.tmp 53) (.tmp 55) 22 63 (.agg #[(.int .i64 0),(.int .i64 0),(.string ⟨#[]⟩)]) 32 rfl Tryz.underlying22 info63 rfl (by decide) (by omega) u4 x4_16 (⟨t173,x178001_16,t175⟩:S63) [.int .i64 t173,.int .i64 x178001_16,.string t175] (fun k_=>k_≠gb177) (fun _=>False) rfl rfl ?aP (fun _ hk=>hk.elim) ?aF ?aO ?aB ?aS ?aL ?_;(case aP=>exact k63_mkM _ _ _ (⟨t173,x178001_16,t175⟩:S63));(case aB=>exact qz13);(case aF=>exact (fun k_ hk=>Kd.freshB (g:=gb177) (o:=.cells #[.int .i64 t173,.int .i64 x178001_16,.string t175] 63 (0,0)) (blkp BK177.out) k_ hk));(case aO=>exact (Kd.Rp HO_4.out));(case aS=>exact (below_size qz13));(case aL=>have:=LMc33.out;omega);intro v186 w36 ho hb hg hat;rw [← Ny185.out] at ho;have n_:=as4 (Kd.R_over' (Kd.Rp HO_5.out) (Kd.R_typed (Kd.Rp HO_4.out)) (by decide) hg) (blk_grown (g:=gb177) (o:=.cells #[.int .i64 t173,.int .i64 x178001_16,.string t175] 63 (0,0)) (blkp BK177.out) hg (Kd.R_away HO_4.out (fun _ hk=>hk))) (hb) (ho);clear HO_5 BK177 HB HO_4;obtain ⟨HO_5,BK177,HB,HO187⟩:=n_;clear ho hb hg hat))
          (try simp only [Act.put,sA_,sZ_,sS_]);go_cut [72] (fun v72 wc=>∃ (kq:Nat) (x72_33:Bool),v72 = .bool x72_33∧Aside0 (spec_TrmRead.j3 kq a0 y185 x5_1 t176 x72_33=some (r1,r2))∧Aside0 (kq≤kj16)∧Aside0 (Kd.R k63 63 wc w.heap.size (fun k_=>k_≠gb177) v186 y185)∧Aside0 (Kd.R (Kd.int .i64) 3 wc w.heap.size (fun _=>True) (.slice Ao21 x5_1.length co21) x5_1)∧Aside0 (wc.heap[gb177]?=some (.cells #[.int .i64 t173,.int .i64 x178001_16,.string t175] 63 (0,0)))∧Aside0 (Below w.heap.size w wc))
          case first=>
           have H:=HC34.out;clear HC34;by_cases c37:t173=3
           ·rw [if_pos c37] at H
            have c37b0:(t173 == 3)=true:=beq_iff_eq.mpr c37;have c37b1:(t173 != 3)=false:=bne_eq_false_iff_eq.mpr c37;clear c37;(first|rw [c37b0]|rw [c37b1]|(simp only [i64_w,i32_w];rw [c37b0])|skip);by_cases c38:t176<(a0.size:Int)
            ·rw [if_pos c38] at H
             have c38b0:decide (t176<(a0.size:Int))=true:=decide_eq_true c38;clear c38;by_cases c39:0≤t176
             ·rw [if_pos c39] at H
              have c39b0:decide (0≤t176)=true:=decide_eq_true c39;clear c39;have H':=Aside0.mk H;clear H;obtain ⟨hcz41_0,hcz41_1,hcz41_2,hfz41_0,hfz41_1,hfz41_2⟩:=blk3 BK177.out;have p40:0≤(t176:Int):=of_decide_eq_true qz4;have q40:t176<(a0.size:Int):=of_decide_eq_true qz4;have hx40:=bt_at a0 t176;replace p40:=eq_true p40;replace q40:=eq_true q40;go_wp2;go_meet
              case rel=>exact ⟨_,(((bt a0 t176) == 40)),qz5,H',⟨qz63⟩,⟨Kd.Rp HO187.out⟩,⟨Kd.Rp HO_5.out⟩,⟨blkp BK177.out⟩,⟨qz13⟩⟩
             ·rw [if_neg c39] at H
              exact absurd H (by simp)
            ·rw [if_neg c38] at H
             have c38b0:decide (t176<(a0.size:Int))=false:=decide_eq_false c38;clear c38;have H':=Aside0.mk H;clear H;obtain ⟨hcz42_0,hcz42_1,hcz42_2,hfz42_0,hfz42_1,hfz42_2⟩:=blk3 BK177.out;go_wp2;go_meet
             case rel=>exact ⟨_,(false),qz5,H',⟨qz63⟩,⟨Kd.Rp HO187.out⟩,⟨Kd.Rp HO_5.out⟩,⟨blkp BK177.out⟩,⟨qz13⟩⟩
           ·rw [if_neg c37] at H
            have c37b0:(t173 == 3)=false:=beq_eq_false_iff_ne.mpr c37;have c37b1:(t173 != 3)=true:=bne_iff_ne.mpr c37;(first|rw [c37b0]|rw [c37b1]|(simp only [i64_w,i32_w];rw [c37b0])|skip);have H':=Aside0.mk H;clear H;obtain ⟨hcz43_0,hcz43_1,hcz43_2,hfz43_0,hfz43_1,hfz43_2⟩:=blk3 BK177.out;go_wp2;go_meet
            case rel=>exact ⟨_,(false),qz5,H',⟨qz63⟩,⟨Kd.Rp HO187.out⟩,⟨Kd.Rp HO_5.out⟩,⟨blkp BK177.out⟩,⟨qz13⟩⟩
          case rest=>
           clear HC34;(try clear c9);(try clear c11);(try clear c11b0);(try clear c33);(try clear hcz20_0);(try clear hcz20_1);(try clear hcz20_2);(try clear hcz35_0);(try clear hcz35_1);(try clear hcz35_2);(try clear hfz20_0);(try clear hfz20_1);(try clear hfz20_2);(try clear hfz35_0);(try clear hfz35_1);(try clear hfz35_2);obtain ⟨kq,x72_33,rfl,HA,HJ33,HO_4,HO_5,BK177,HB⟩:=hcut;cases kq with
           | zero=>exact absurd HA.out (by simp [spec_TrmRead.j3])
           | succ kj33=>
            have H:=HA.out;clear HA;simp only [spec_TrmRead.j3] at H;by_cases c44:x72_33=true
            ·subst c44
             have H1:(if x5_1.length<17592186044416 then (spec_TrmRead.l0 kj33 a0 y185 (x5_1++[wrap64 ((y185.length:Int) - 1)]) (wrap64 (t176+1))) else (none))=some (r1,r2):=qz26;clear H;have H:=H1;clear H1;by_cases c45:x5_1.length<17592186044416
             ·rw [if_pos c45] at H
              have LMc45:=Aside0.mk c45;clear c45;obtain ⟨y188,hy188⟩:∃ y_:List Int,y_=(x5_1++[wrap64 ((y185.length:Int) - 1)]):=⟨_,rfl⟩;replace H:(spec_TrmRead.l0 kj33 a0 y185 y188 (wrap64 (t176+1)))=some (r1,r2):=by first|(rw [hy188];exact H)|exact H
              have Ny188:=Aside0.mk hy188;clear hy188;have H':=Aside0.mk H;clear H;obtain ⟨Ao46,co46,eo46⟩:=Kd.R_slice HO_4.out;subst eo46
              go_wp2_with (first|((with_reducible refine gate_builtin (b:=.append) (xs:=#[.tmp 73,.tmp 77]) rfl ?_);(try (refine gate_guard (by rfl) ?_;dsimp only));at_builtin;refine Kd.R_append (Kd.int .i64) (w0:=w) w.heap.size rfl (.tmp 73) (.tmp 77) 78 3 (.int .i64 0) 8 rfl Tryz.underlying78 info3 rfl (by decide) (by omega) (.slice Ao21 x5_1.length co21) x5_1 (wrap64 ((y185.length:Int) - 1)) [.int .i64 (wrap64 ((y185.length:Int) - 1))] (fun _=>True) (fun _=>False) rfl rfl ?aP (fun _ hk=>hk.elim) ?aF ?aO ?aB ?aS ?aL ?_;(case aP=>exact rfl);(case aB=>exact qz13);(case aF=>exact (fun _ _=>trivial));(case aO=>exact (Kd.Rp HO_5.out));(case aS=>exact (below_size qz13));(case aL=>have:=LMc45.out;omega);intro v189 w47 ho hb hg hat;rw [← Ny188.out] at ho;have n_:=as4 (Kd.R_over' (Kd.Rp HO_4.out) (Kd.R_typed (Kd.Rp HO_5.out)) (by decide) hg) (blk_grown (g:=gb177) (o:=.cells #[.int .i64 t173,.int .i64 x178001_16,.string t175] 63 (0,0)) (blkp BK177.out) hg (by first|exact Kd.R_ne HO_5.out BK177.out (by decide)|exact fun he_=>(HO_5.out.1 _ he_.symm).2 rfl)) (hb) (ho);clear HO_4 BK177 HB HO_5;obtain ⟨HO_4,BK177,HB,HO190⟩:=n_;clear ho hb hg hat))
              go_roundg kj33
              case measure=>have:=HK1.out;have:=HJ5.out;have:=HJ16.out;have:=HJ33.out;omega
              case rel=>exact ⟨(y185),(y188),(wrap64 (t176+1)),qz5,H',⟨by have:=HK1.out;have:=HJ5.out;have:=HJ16.out;have:=HJ33.out;omega⟩,⟨Kd.Rp (Kd.R_mono HO_4.out (fun _ hk=>trivial))⟩,⟨Kd.Rp HO190.out⟩,⟨qz13⟩⟩
             ·rw [if_neg c45] at H
              exact absurd H (by simp)
            ·replace c44:=Bool.eq_false_iff.mpr c44
             subst c44;have H1:(spec_TrmRead.l1 kj33 a0 y185 x5_1 t176)=some (r1,r2):=qz15;clear H;have H:=H1;clear H1;have H':=Aside0.mk H;clear H;go_wp2
             go_loopg [5,6] kj33 (fun kq v5 v6 w'=>∃ (x5_5:List Int) (x6_5:Int),v6 = .int .i64 x6_5∧Aside0 (spec_TrmRead.l1 kq a0 y185 x5_5 x6_5=some (r1,r2))∧Aside0 (kq≤kj33)∧Aside0 (Kd.R k63 63 w' w.heap.size (fun k_=>k_≠gb177) v186 y185)∧Aside0 (Kd.R (Kd.int .i64) 3 w' w.heap.size (fun _=>True) v5 x5_5)∧Aside0 (w'.heap[gb177]?=some (.cells #[.int .i64 t173,.int .i64 x178001_16,.string t175] 63 (0,0)))∧Aside0 (Below w.heap.size w w'))
             case atStart=>exact ⟨(x5_1),(t176),qz5,H',⟨Nat.le_refl _⟩,⟨Kd.Rp HO_4.out⟩,⟨Kd.Rp HO_5.out⟩,⟨blkp BK177.out⟩,⟨qz13⟩⟩
             case round=>
              clear H';(try clear c9);(try clear c11);(try clear c11b0);(try clear c33);(try clear c44);(try clear hcz20_0);(try clear hcz20_1);(try clear hcz20_2);(try clear hcz35_0);(try clear hcz35_1);(try clear hcz35_2);(try clear hfz20_0);(try clear hfz20_1);(try clear hfz20_2);(try clear hfz35_0);(try clear hfz35_1);(try clear hfz35_2);obtain ⟨x5_5,x6_5,rfl,HA,HK5,HO_4,HO_5,BK177,HB⟩:=hrel;cases gk with
              | zero=>exact absurd HA.out (by simp [spec_TrmRead.l1])
              | succ k5=>
               have H:=HA.out;clear HA;simp only [spec_TrmRead.l1] at H;have HC48:=Aside0.mk H;clear H;go_upto_region 15 with (fail)
               go_cut [95] (fun v95 wc=>∃ (kq:Nat) (x95_47:Bool),v95 = .bool x95_47∧Aside0 (spec_TrmRead.j5 kq a0 y185 x5_5 x6_5 x95_47=some (r1,r2))∧Aside0 (kq≤k5)∧Aside0 (Kd.R k63 63 wc w.heap.size (fun k_=>k_≠gb177) v186 y185)∧Aside0 (Kd.R (Kd.int .i64) 3 wc w.heap.size (fun _=>True) u5 x5_5)∧Aside0 (wc.heap[gb177]?=some (.cells #[.int .i64 t173,.int .i64 x178001_16,.string t175] 63 (0,0)))∧Aside0 (Below w.heap.size w wc))
               case first=>
                have H:=HC48.out;clear HC48;by_cases c49:x6_5<(a0.size:Int)
                ·rw [if_pos c49] at H
                 have c49b0:decide (x6_5<(a0.size:Int))=true:=decide_eq_true c49;clear c49;(first|rw [c49b0]|rw [c49b1]|(simp only [i64_w,i32_w];rw [c49b0])|skip);by_cases c50:0≤x6_5
                 ·rw [if_pos c50] at H
                  have c50b0:decide (0≤x6_5)=true:=decide_eq_true c50;clear c50;by_cases c52:(bt a0 x6_5)=41
                  ·rw [if_pos c52] at H
                   have c52b0:((bt a0 x6_5) == 41)=true:=beq_iff_eq.mpr c52;have c52b1:((bt a0 x6_5) != 41)=false:=bne_eq_false_iff_eq.mpr c52;clear c52;have H':=Aside0.mk H;clear H;have p51:0≤(x6_5:Int):=of_decide_eq_true qz4;have q51:x6_5<(a0.size:Int):=of_decide_eq_true qz4;have hx51:=bt_at a0 x6_5;replace p51:=eq_true p51;replace q51:=eq_true q51;obtain ⟨Ao53,co53,eo53⟩:=Kd.R_slice HO_5.out;subst eo53;go_wp2;go_meet
                   case rel=>exact ⟨_,(decide ((x5_5.length:Int) > 0)),qz5,H',⟨qz57⟩,⟨Kd.Rp HO_4.out⟩,⟨Kd.Rp HO_5.out⟩,⟨blkp BK177.out⟩,⟨qz13⟩⟩
                  ·rw [if_neg c52] at H
                   have c52b0:((bt a0 x6_5) == 41)=false:=beq_eq_false_iff_ne.mpr c52;have c52b1:((bt a0 x6_5) != 41)=true:=bne_iff_ne.mpr c52;have H':=Aside0.mk H;clear H;have p51:0≤(x6_5:Int):=of_decide_eq_true qz4;have q51:x6_5<(a0.size:Int):=of_decide_eq_true qz4;have hx51:=bt_at a0 x6_5;replace p51:=eq_true p51;replace q51:=eq_true q51;go_wp2;go_meet
                   case rel=>exact ⟨_,(false),qz5,H',⟨qz57⟩,⟨Kd.Rp HO_4.out⟩,⟨Kd.Rp HO_5.out⟩,⟨blkp BK177.out⟩,⟨qz13⟩⟩
                 ·rw [if_neg c50] at H
                  exact absurd H (by simp)
                ·rw [if_neg c49] at H
                 have c49b0:decide (x6_5<(a0.size:Int))=false:=decide_eq_false c49;clear c49;(first|rw [c49b0]|rw [c49b1]|(simp only [i64_w,i32_w];rw [c49b0])|skip);have H':=Aside0.mk H;clear H;go_wp2;go_meet
                 case rel=>exact ⟨_,(false),qz5,H',⟨qz57⟩,⟨Kd.Rp HO_4.out⟩,⟨Kd.Rp HO_5.out⟩,⟨blkp BK177.out⟩,⟨qz13⟩⟩
               case rest=>
                clear HC48;(try clear c9);(try clear c11);(try clear c11b0);(try clear c33);(try clear c44);(try clear hcz20_0);(try clear hcz20_1);(try clear hcz20_2);(try clear hcz35_0);(try clear hcz35_1);(try clear hcz35_2);(try clear hfz20_0);(try clear hfz20_1);(try clear hfz20_2);(try clear hfz35_0);(try clear hfz35_1);(try clear hfz35_2);obtain ⟨kq,x95_47,rfl,HA,HJ47,HO_4,HO_5,BK177,HB⟩:=hcut;cases kq with
                | zero=>exact absurd HA.out (by simp [spec_TrmRead.j5])
                | succ kj47=>
                 have H:=HA.out;clear HA;simp only [spec_TrmRead.j5] at H;by_cases c54:x95_47=true
                 ·subst c54
                  have H1:(if 0≤(wrap64 ((x5_5.length:Int) - 1)) then (if (wrap64 ((x5_5.length:Int) - 1))≤(x5_5.length:Int) then (spec_TrmRead.l1 kj47 a0 y185 (x5_5.take ((wrap64 ((x5_5.length:Int) - 1)):Int).toNat) (wrap64 (x6_5+1))) else (none)) else (none))=some (r1,r2):=qz26;clear H;have H:=H1;clear H1;obtain ⟨ji55,hji55⟩:∃ j_:Int,(wrap64 ((x5_5.length:Int) - 1))=j_:=⟨_,rfl⟩;replace H:(if 0≤(ji55) then (if (ji55)≤(x5_5.length:Int) then (spec_TrmRead.l1 kj47 a0 y185 (x5_5.take ((ji55):Int).toNat) (wrap64 (x6_5+1))) else (none)) else (none))=some (r1,r2):=by first|(rw [hji55] at H;exact H)|(simp only [hji55] at H ⊢;exact H)
                  have hji55w:(IntKind.i64.wrap ((x5_5.length:Int) - 1))=ji55:=(i64_w _).trans hji55;by_cases c56:0≤(ji55)
                  ·rw [if_pos c56] at H
                   have c56b0:=eq_true c56;have c56b1:decide (0≤(ji55))=true:=decide_eq_true c56;clear c56;by_cases c57:(ji55)≤(x5_5.length:Int)
                   ·rw [if_pos c57] at H
                    have c57b0:=eq_true c57;have c57b1:decide ((ji55)≤(x5_5.length:Int))=true:=decide_eq_true c57;clear c57;obtain ⟨y191,hy191⟩:∃ y_:List Int,y_=(x5_5.take ((ji55):Int).toNat):=⟨_,rfl⟩;replace H:(spec_TrmRead.l1 kj47 a0 y185 y191 (wrap64 (x6_5+1)))=some (r1,r2):=by first|(rw [hy191];exact H)|exact H
                    have Ny191:=Aside0.mk hy191;clear hy191;have H':=Aside0.mk H;clear H;obtain ⟨Ao58,co58,eo58⟩:=Kd.R_slice HO_5.out;subst eo58;have q59:((ji55):Int)≤((x5_5.length:Int):Int):=of_decide_eq_true qz4;obtain ⟨i059,hi059,_,hsz59,_⟩:=info_parts info3;have hcut59:=cut_to (P:=Tryz.prog) 78 3 .i64 Tryz.underlying78 hi059 Ao58 x5_5.length co58 (ji55) (of_decide_eq_true qz4) q59 (Kd.R_reads' HO_5.out).2.1;have hr59:=Kd.R_take (m:=((ji55):Int).toNat) HO_5.out (by omega);have hy59:y191.length=((ji55):Int).toNat:=(by rw [Ny191.out,List.length_take];omega);rw [← Ny191.out] at hr59;rw [← hy59] at hr59 hcut59;clear hy59 hi059 hsz59 HO_5;have HO193:=Aside0.mk hr59;clear hr59;replace q59:=eq_true q59;go_wp2;go_roundg kj47
                    case measure=>have:=HK1.out;have:=HJ5.out;have:=HJ16.out;have:=HJ33.out;have:=HK5.out;have:=HJ47.out;omega
                    case rel=>exact ⟨(y191),(wrap64 (x6_5+1)),qz5,H',⟨qz54⟩,⟨Kd.Rp HO_4.out⟩,⟨Kd.Rp HO193.out⟩,⟨blkp BK177.out⟩,⟨qz13⟩⟩
                   ·rw [if_neg c57] at H
                    exact absurd H (by simp)
                  ·rw [if_neg c56] at H
                   exact absurd H (by simp)
                 ·replace c54:=Bool.eq_false_iff.mpr c54
                  subst c54;have H1:(if x6_5<(a0.size:Int) then (if 0≤x6_5 then (if (bt a0 x6_5)=44 then (spec_TrmRead.l0 kj47 a0 y185 x5_5 (wrap64 (x6_5+1))) else (spec_TrmRead.l0 kj47 a0 y185 x5_5 x6_5)) else (none)) else (spec_TrmRead.l0 kj47 a0 y185 x5_5 x6_5))=some (r1,r2):=qz15;clear H;have H:=H1;clear H1;by_cases c60:x6_5<(a0.size:Int)
                  ·rw [if_pos c60] at H
                   have c60b0:decide (x6_5<(a0.size:Int))=true:=decide_eq_true c60;clear c60;by_cases c61:0≤x6_5
                   ·rw [if_pos c61] at H
                    have c61b0:decide (0≤x6_5)=true:=decide_eq_true c61;clear c61;by_cases c63:(bt a0 x6_5)=44
                    ·rw [if_pos c63] at H
                     have c63b0:((bt a0 x6_5) == 44)=true:=beq_iff_eq.mpr c63;have c63b1:((bt a0 x6_5) != 44)=false:=bne_eq_false_iff_eq.mpr c63;clear c63;have H':=Aside0.mk H;clear H;have p62:0≤(x6_5:Int):=of_decide_eq_true qz4;have q62:x6_5<(a0.size:Int):=of_decide_eq_true qz4;have hx62:=bt_at a0 x6_5;replace p62:=eq_true p62;replace q62:=eq_true q62;go_wp2;go_roundg kj47
                     case measure=>have:=HK1.out;have:=HJ5.out;have:=HJ16.out;have:=HJ33.out;have:=HK5.out;have:=HJ47.out;omega
                     case rel=>exact ⟨(y185),(x5_5),(wrap64 (x6_5+1)),qz5,H',⟨qz54⟩,⟨Kd.Rp (Kd.R_mono HO_4.out (fun _ hk=>trivial))⟩,⟨Kd.Rp HO_5.out⟩,⟨qz13⟩⟩
                    ·rw [if_neg c63] at H
                     have c63b0:((bt a0 x6_5) == 44)=false:=beq_eq_false_iff_ne.mpr c63;have c63b1:((bt a0 x6_5) != 44)=true:=bne_iff_ne.mpr c63;have H':=Aside0.mk H;clear H;have p62:0≤(x6_5:Int):=of_decide_eq_true qz4;have q62:x6_5<(a0.size:Int):=of_decide_eq_true qz4;have hx62:=bt_at a0 x6_5;replace p62:=eq_true p62;replace q62:=eq_true q62;go_wp2;go_roundg kj47
                     case measure=>have:=HK1.out;have:=HJ5.out;have:=HJ16.out;have:=HJ33.out;have:=HK5.out;have:=HJ47.out;omega
                     case rel=>exact ⟨(y185),(x5_5),(x6_5),qz5,H',⟨qz54⟩,⟨Kd.Rp (Kd.R_mono HO_4.out (fun _ hk=>trivial))⟩,⟨Kd.Rp HO_5.out⟩,⟨qz13⟩⟩
                   ·rw [if_neg c61] at H
                    exact absurd H (by simp)
                  ·rw [if_neg c60] at H
                   have c60b0:decide (x6_5<(a0.size:Int))=false:=decide_eq_false c60;clear c60;have H':=Aside0.mk H;clear H;go_wp2;go_roundg kj47
                   case measure=>have:=HK1.out;have:=HJ5.out;have:=HJ16.out;have:=HJ33.out;have:=HK5.out;have:=HJ47.out;omega
                   case rel=>exact ⟨(y185),(x5_5),(x6_5),qz5,H',⟨qz54⟩,⟨Kd.Rp (Kd.R_mono HO_4.out (fun _ hk=>trivial))⟩,⟨Kd.Rp HO_5.out⟩,⟨qz13⟩⟩
         ·rw [if_neg c33] at H
          exact absurd H (by simp)
     ·replace c9:=Bool.eq_false_iff.mpr c9
      subst c9;have H1:((spec_TrmText.f kj5 x4_1).bind fun t194=>(if t194.toList=a0.toList then (if a0.toList=([]:List UInt8) then (some ((([]:List (S63))),false)) else (some (x4_1,true))) else (some ((([]:List (S63))),false))))=some (r1,r2):=qz15;clear H;have H:=H1;clear H1;replace H:=Option.bind_eq_some_iff.mp H;obtain ⟨t194,A640,H⟩:=H;(try dsimp only at H);have A64:=Aside0.mk A640;clear A640;by_cases c65:t194.toList=a0.toList
      ·rw [if_pos c65] at H
       have c65b0:(t194.toList == a0.toList)=true:=beq_iff_eq.mpr c65;have c65b1:(t194.toList != a0.toList)=false:=bne_eq_false_iff_eq.mpr c65;clear c65;by_cases c66:a0.toList=([]:List UInt8)
       ·rw [if_pos c66] at H
        have c66b0:(a0.toList == ([]:List UInt8))=true:=beq_iff_eq.mpr c66;have c66b1:(a0.toList != ([]:List UInt8))=false:=bne_eq_false_iff_eq.mpr c66;clear c66;obtain ⟨y195,hy195⟩:∃ y_:List (S63),y_=(([]:List (S63))):=⟨_,rfl⟩;replace H:(some (y195,false))=some (r1,r2):=by first|(rw [hy195];exact H)|exact H
        have Ny195:=Aside0.mk hy195;clear hy195;simp only [Option.some.injEq,Prod.mk.injEq] at H;obtain ⟨rfl,rfl⟩:=H;obtain ⟨Ao67,co67,eo67⟩:=Kd.R_slice HO_4.out;subst eo67
        go_wp2_with (first|(go_at_call 36;(with_reducible refine (spec_TrmText.calls kj5 _ _ x4_1 t194 _ ?side1 ?side2 A64.out).mono ?_);(case side1=>exact qz51);(case side2=>exact (Kd.R_reads' HO_4.out).2.1);rintro e w68 ⟨rfl,hb⟩;have n_:=as3 (Kd.R_below (Kd.Rp HO_4.out) hb) (Kd.R_below (Kd.Rp HO_5.out) hb) (below_step qz3 hb);clear HO_4 HO_5 HB;obtain ⟨HO_4,HO_5,HB⟩:=n_;clear hb)|((with_reducible refine gate_dst (N:=123) rfl ?_);(try (refine gate_guard (by rfl) ?_;dsimp only));refine Kd.R_lit k63 _ 63 ?hg (N:=123) ?hd (xs:=([]:List (S63))) (inner:=[]) (ok:=fun _=>True) (okp:=fun _=>True) ?hr ?hp (fun _ hk=>hk) trivial (Below.refl _ _) (Nat.le_refl _) (by simp) ?_;(case hd=>rfl);(case hg=>rfl);(case hr=>first|(go_simp;done)|(go_simp;rfl));(case hp=>exact (Reps.none _ _));intro v196 w69 ho70 hb hg_ hnew_;clear hg_ hnew_;(first|rw [← Ny195.out] at ho70|(simp only [Int.reduceToNat] at ho70;rw [← Ny195.out] at ho70));have n_:=as4 (Kd.R_elder' (Kd.Rp HO_4.out) (Kd.R_base ho70) hb) (Kd.R_below (Kd.Rp HO_5.out) hb) (Kd.R_lower (Kd.R_new' ho70 (Kd.R_lt (Kd.Rp HO_4.out))) (below_size qz3)) (below_step qz3 hb);clear HO_4 HO_5 HB;obtain ⟨HO_4,HO_5,HO197,HB⟩:=n_;clear hb ho70))
        go_ret2;exact ⟨_,qz2,by (with_reducible repeat (first|apply Kd.R_alloc|apply Kd.R_drewN|apply Kd.R_drew));exact Kd.R_mono HO197.out (fun _ hk=>trivial),qz1⟩
       ·rw [if_neg c66] at H
        have c66b0:(a0.toList == ([]:List UInt8))=false:=beq_eq_false_iff_ne.mpr c66;have c66b1:(a0.toList != ([]:List UInt8))=true:=bne_iff_ne.mpr c66;simp only [Option.some.injEq,Prod.mk.injEq] at H;obtain ⟨rfl,rfl⟩:=H;obtain ⟨Ao71,co71,eo71⟩:=Kd.R_slice HO_4.out;subst eo71
        go_wp2_with (first|(go_at_call 36;(with_reducible refine (spec_TrmText.calls kj5 _ _ x4_1 t194 _ ?side1 ?side2 A64.out).mono ?_);(case side1=>exact qz51);(case side2=>exact (Kd.R_reads' HO_4.out).2.1);rintro e w72 ⟨rfl,hb⟩;have n_:=as3 (Kd.R_below (Kd.Rp HO_4.out) hb) (Kd.R_below (Kd.Rp HO_5.out) hb) (below_step qz3 hb);clear HO_4 HO_5 HB;obtain ⟨HO_4,HO_5,HB⟩:=n_;clear hb))
        go_ret2;exact ⟨_,qz2,by (with_reducible repeat (first|apply Kd.R_alloc|apply Kd.R_drewN|apply Kd.R_drew));exact HO_4.out,qz1⟩
      ·rw [if_neg c65] at H
       have c65b0:(t194.toList == a0.toList)=false:=beq_eq_false_iff_ne.mpr c65;have c65b1:(t194.toList != a0.toList)=true:=bne_iff_ne.mpr c65;obtain ⟨y198,hy198⟩:∃ y_:List (S63),y_=(([]:List (S63))):=⟨_,rfl⟩;replace H:(some (y198,false))=some (r1,r2):=by first|(rw [hy198];exact H)|exact H
       have Ny198:=Aside0.mk hy198;clear hy198;simp only [Option.some.injEq,Prod.mk.injEq] at H;obtain ⟨rfl,rfl⟩:=H;obtain ⟨Ao73,co73,eo73⟩:=Kd.R_slice HO_4.out;subst eo73
       go_wp2_with (first|(go_at_call 36;(with_reducible refine (spec_TrmText.calls kj5 _ _ x4_1 t194 _ ?side1 ?side2 A64.out).mono ?_);(case side1=>exact qz51);(case side2=>exact (Kd.R_reads' HO_4.out).2.1);rintro e w74 ⟨rfl,hb⟩;have n_:=as3 (Kd.R_below (Kd.Rp HO_4.out) hb) (Kd.R_below (Kd.Rp HO_5.out) hb) (below_step qz3 hb);clear HO_4 HO_5 HB;obtain ⟨HO_4,HO_5,HB⟩:=n_;clear hb)|((with_reducible refine gate_dst (N:=123) rfl ?_);(try (refine gate_guard (by rfl) ?_;dsimp only));refine Kd.R_lit k63 _ 63 ?hg (N:=123) ?hd (xs:=([]:List (S63))) (inner:=[]) (ok:=fun _=>True) (okp:=fun _=>True) ?hr ?hp (fun _ hk=>hk) trivial (Below.refl _ _) (Nat.le_refl _) (by simp) ?_;(case hd=>rfl);(case hg=>rfl);(case hr=>first|(go_simp;done)|(go_simp;rfl));(case hp=>exact (Reps.none _ _));intro v199 w75 ho76 hb hg_ hnew_;clear hg_ hnew_;(first|rw [← Ny198.out] at ho76|(simp only [Int.reduceToNat] at ho76;rw [← Ny198.out] at ho76));have n_:=as4 (Kd.R_elder' (Kd.Rp HO_4.out) (Kd.R_base ho76) hb) (Kd.R_below (Kd.Rp HO_5.out) hb) (Kd.R_lower (Kd.R_new' ho76 (Kd.R_lt (Kd.Rp HO_4.out))) (below_size qz3)) (below_step qz3 hb);clear HO_4 HO_5 HB;obtain ⟨HO_4,HO_5,HO200,HB⟩:=n_;clear hb ho76))
       go_ret2;exact ⟨_,qz2,by (with_reducible repeat (first|apply Kd.R_alloc|apply Kd.R_drewN|apply Kd.R_drew));exact Kd.R_mono HO200.out (fun _ hk=>trivial),qz1⟩

end Go.Proofs.YtlhniagacegbeaaGreatDoor.P
