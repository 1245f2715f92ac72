/- Contracts of functions of the program: each as a Lean function, and that its call does what that says; printed by cprint.py (this session) over print.py of the kit. Conditions: the hypotheses of each theorem. -/
import Derived.Test.YtlaicnoikeieeaaDoorVZ
import Derived.Test.YtlaicnoikeieeaaDoorP0
import Derived.Test.YtlaicnoikeieeaaDoorP7
namespace Go.Proofs.YtlaicnoikeieeaaDoor.P
open Go.RowKit Go.Proofs.YtlaicnoikeieeaaDoorW.PrintWords Go.Proofs.YtlaicnoikeieeaaDoorW.PrintLast Go.Proofs.YtlaicnoikeieeaaDoorW.PrintMore
attribute [local go_sem] max2_int min2_int max_two min_two max_three min_three max_four min_four   -- for this text's walks alone
set_option linter.unusedVariables false
set_option linter.unusedSimpArgs false

/-! ### spec_l1Cell: function 67 -/
/-! ### spec_l1End: function 68 -/
mutual
def spec_l1End.l0:Nat→List (S46)→Int→Int→Option (Int)
 | 0,_,_,_=>none
 | k+1,x0,x5,x6=>if x5 > 0 then (if x6<0 then (spec_l1End.j1 k x0 x5 x6 true) else (spec_l1End.j1 k x0 x5 x6 (decide (x6≥(x0.length:Int))))) else (some x6)
def spec_l1End.j1:Nat→List (S46)→Int→Int→Bool→Option (Int)
 | 0,_,_,_,_=>none
 | k+1,x0,x5,x6,x17=>if x17=true then (some (-1)) else (if 0≤x6 then (if x6<(x0.length:Int) then (if ((rd_T46 x0 x6).f0)=3 then (spec_l1End.l0 k x0 (wrap64 ((wrap64 (x5 - 1))+((rd_T46 x0 x6).f1))) (wrap64 (x6+1))) else (spec_l1End.l0 k x0 (wrap64 (x5 - 1)) (wrap64 (x6+1)))) else (none)) else (none))
end
def spec_l1End.f (k:Nat) (l0:List (S46)) (a1:Int):Option (Int):=spec_l1End.l0 k l0 1 a1
set_option maxHeartbeats 8000000 in
set_option maxRecDepth 100000 in
theorem spec_l1End.calls (k:Nat) (A0:Option Addr) (c0:Nat) (l0:List (S46)) (a1:Int) (r:Int) (w:World) (hr0:Kd.C k46 w A0 l0.length l0) (hc0:l0.length≤c0) (h:spec_l1End.f k l0 a1=some r) :
  Calls Tryd.prog 68 #[.slice A0 l0.length c0,.int .i64 a1] w fun e w'=>e = .returned (.int .i64 r)∧Drawn0 w w':=by
 have HR0:=Aside0.mk hr0
 have HC0:=Aside0.mk hc0
 clear hr0 hc0
 have H:(spec_l1End.l0 k l0 1 a1)=some r:=h
 clear h
 have H':=Aside0.mk H
 clear H
 go_enter Tryd.func68,Tryd.ntmps68
 go_wp2
 go_loopg [5,6] k (fun kq v5 v6 w'=>∃ (x5_1:Int) (x6_1:Int),v5 = .int .i64 x5_1∧v6 = .int .i64 x6_1∧Aside0 (spec_l1End.l0 kq l0 x5_1 x6_1=some r)∧Aside0 (kq≤k)∧Drawn0 w w')
 case atStart=>exact ⟨(1),(a1),qz9,qz9,H',⟨Nat.le_refl _⟩,qz21⟩
 case round=>
  clear H'
  try clear p2
  obtain ⟨x5_1,x6_1,rfl,rfl,HA,HK1,⟨m1,rfl⟩⟩:=hrel
  cases gk with
  | zero=>exact absurd HA.out (by simp [spec_l1End.l0])
  | succ k1=>
   have H:=HA.out
   clear HA
   simp only [spec_l1End.l0] at H
   by_cases c3:x5_1 > 0
   ·rw [if_pos c3] at H
    have c3b0:decide (0<x5_1)=true:=decide_eq_true c3
    clear c3
    have HC4:=Aside0.mk H
    clear H
    go_upto_region 4 with (fail)
    go_cut [17] (fun v17 wc=>∃ (kq:Nat) (x17_3:Bool),v17 = .bool x17_3∧Aside0 (spec_l1End.j1 kq l0 x5_1 x6_1 x17_3=some r)∧Aside0 (kq≤k1)∧Drawn0 w wc)
    case first=>
     have H:=HC4.out
     clear HC4
     by_cases c5:x6_1<0
     ·rw [if_pos c5] at H
      have c5b0:decide (x6_1<0)=true:=decide_eq_true c5
      clear c5
      (first|rw [c5b0]|(simp only [i64_w,i32_w];rw [c5b0])|skip)
      have H':=Aside0.mk H
      clear H
      go_wp2
      go_meet
      case rel=>exact ⟨_,(true),qz9,H',⟨qz70⟩,qz21⟩
     ·rw [if_neg c5] at H
      have c5b0:decide (x6_1<0)=false:=decide_eq_false c5
      clear c5
      (first|rw [c5b0]|(simp only [i64_w,i32_w];rw [c5b0])|skip)
      have H':=Aside0.mk H
      clear H
      go_wp2
      go_meet
      case rel=>exact ⟨_,(decide (x6_1≥(l0.length:Int))),qz9,H',⟨qz70⟩,qz21⟩
    case rest=>
     clear HC4
     try clear p2
     try clear c3
     try clear c3b0
     try clear c5
     try clear c5b0
     try clear p2
     obtain ⟨kq,x17_3,rfl,HA,HJ3,⟨mc3,rfl⟩⟩:=hcut
     cases kq with
     | zero=>exact absurd HA.out (by simp [spec_l1End.j1])
     | succ kj3=>
      have H:=HA.out
      clear HA
      simp only [spec_l1End.j1] at H
      by_cases c6:x17_3=true
      ·subst c6
       have H1:(some (-1))=some r:=qz43
       clear H
       have H:=H1
       clear H1
       obtain rfl:=Option.some.inj H
       go_wp2
       go_ret
       exact ⟨qz9,qz21⟩
      ·replace c6:=Bool.eq_false_iff.mpr c6
       subst c6
       have H1:(if 0≤x6_1 then (if x6_1<(l0.length:Int) then (if ((rd_T46 l0 x6_1).f0)=3 then (spec_l1End.l0 kj3 l0 (wrap64 ((wrap64 (x5_1 - 1))+((rd_T46 l0 x6_1).f1))) (wrap64 (x6_1+1))) else (spec_l1End.l0 kj3 l0 (wrap64 (x5_1 - 1)) (wrap64 (x6_1+1)))) else (none)) else (none))=some r:=qz24
       clear H
       have H:=H1
       clear H1
       by_cases c7:0≤x6_1
       ·rw [if_pos c7] at H
        have c7b0:decide (0≤x6_1)=true:=decide_eq_true c7
        clear c7
        by_cases c8:x6_1<(l0.length:Int)
        ·rw [if_pos c8] at H
         have c8b0:decide (x6_1<(l0.length:Int))=true:=decide_eq_true c8
         clear c8
         by_cases c9:((rd_T46 l0 x6_1).f0)=3
         ·rw [if_pos c9] at H
          have c9b0:(((rd_T46 l0 x6_1).f0) == 3)=true:=beq_iff_eq.mpr c9
          have c9b1:(((rd_T46 l0 x6_1).f0) != 3)=false:=bne_eq_false_iff_eq.mpr c9
          clear c9
          have H':=Aside0.mk H
          clear H
          have p171:0≤(x6_1:Int):=of_decide_eq_true qz6
          have q171:x6_1<(l0.length:Int):=of_decide_eq_true qz6
          obtain ⟨ad171,e171,hx171_0,hx171_1,hx171_2⟩:=at_T46 HR0.out x6_1 p171 q171
          cases e171
          replace p171:=eq_true p171
          replace q171:=eq_true q171
          have p172:0≤(x6_1:Int):=of_decide_eq_true qz6
          have q172:x6_1<(l0.length:Int):=of_decide_eq_true qz6
          obtain ⟨ad172,e172,hx172_0,hx172_1,hx172_2⟩:=at_T46 HR0.out x6_1 p172 q172
          obtain rfl:ad171=ad172:=(by injection e172)
          replace p172:=eq_true p172
          replace q172:=eq_true q172
          go_wp2
          go_roundg kj3
          case measure=>have:=HK1.out;have:=HJ3.out;omega
          case rel=>exact ⟨(wrap64 ((wrap64 (x5_1 - 1))+((rd_T46 l0 x6_1).f1))),(wrap64 (x6_1+1)),qz9,qz9,H',⟨by have:=HK1.out;have:=HJ3.out;omega⟩,qz21⟩
         ·rw [if_neg c9] at H
          have c9b0:(((rd_T46 l0 x6_1).f0) == 3)=false:=beq_eq_false_iff_ne.mpr c9
          have c9b1:(((rd_T46 l0 x6_1).f0) != 3)=true:=bne_iff_ne.mpr c9
          have H':=Aside0.mk H
          clear H
          have p171:0≤(x6_1:Int):=of_decide_eq_true qz6
          have q171:x6_1<(l0.length:Int):=of_decide_eq_true qz6
          obtain ⟨ad171,e171,hx171_0,hx171_1,hx171_2⟩:=at_T46 HR0.out x6_1 p171 q171
          cases e171
          replace p171:=eq_true p171
          replace q171:=eq_true q171
          go_wp2
          go_roundg kj3
          case measure=>have:=HK1.out;have:=HJ3.out;omega
          case rel=>exact ⟨(wrap64 (x5_1 - 1)),(wrap64 (x6_1+1)),qz9,qz9,H',⟨by have:=HK1.out;have:=HJ3.out;omega⟩,qz21⟩
        ·rw [if_neg c8] at H
         exact absurd H (by simp)
       ·rw [if_neg c7] at H
        exact absurd H (by simp)
   ·rw [if_neg c3] at H
    have c3b0:decide (0<x5_1)=false:=decide_eq_false c3
    clear c3
    obtain rfl:=Option.some.inj H
    go_wp2
    go_ret
    exact ⟨qz9,qz21⟩

/-! ### spec_TrmOk: function 30 -/
/-! ### spec_l1Has: function 58 -/
def spec_l1Has.l0:Nat→List Int→Int→Int→Option (Bool)
 | 0,_,_,_=>none
 | k+1,x0,x1,x5=>if x5<(x0.length:Int) then (if 0≤x5 then (if (rd x0 x5)=x1 then (some true) else (spec_l1Has.l0 k x0 x1 (wrap64 (x5+1)))) else (none)) else (some false)
def spec_l1Has.f (k:Nat) (l0:List Int) (a1:Int):Option (Bool):=spec_l1Has.l0 k l0 a1 0
set_option maxHeartbeats 8000000 in
set_option maxRecDepth 100000 in
theorem spec_l1Has.calls (k:Nat) (A0:Option Addr) (c0:Nat) (l0:List Int) (a1:Int) (r:Bool) (w:World) (hr0:Kd.C (Kd.int .i64) w A0 l0.length l0) (hc0:l0.length≤c0) (h:spec_l1Has.f k l0 a1=some r) :
  Calls Tryd.prog 58 #[.slice A0 l0.length c0,.int .i64 a1] w fun e w'=>e = .returned (.bool r)∧Drawn0 w w':=by
 have HR0:=Aside0.mk hr0
 have HC0:=Aside0.mk hc0
 clear hr0 hc0
 have H:(spec_l1Has.l0 k l0 a1 0)=some r:=h
 clear h
 have H':=Aside0.mk H
 clear H
 go_enter Tryd.func58,Tryd.ntmps58
 go_wp2
 go_loopg [5] k (fun kq v5 w'=>∃ (x5_1:Int),v5 = .int .i64 x5_1∧Aside0 (spec_l1Has.l0 kq l0 a1 x5_1=some r)∧Aside0 (kq≤k)∧Drawn0 w w')
 case atStart=>exact ⟨(0),qz9,H',⟨Nat.le_refl _⟩,qz21⟩
 case round=>
  clear H'
  try clear p2
  obtain ⟨x5_1,rfl,HA,HK1,⟨m1,rfl⟩⟩:=hrel
  cases gk with
  | zero=>exact absurd HA.out (by simp [spec_l1Has.l0])
  | succ k1=>
   have H:=HA.out
   clear HA
   simp only [spec_l1Has.l0] at H
   by_cases c3:x5_1<(l0.length:Int)
   ·rw [if_pos c3] at H
    have c3b0:decide (x5_1<(l0.length:Int))=true:=decide_eq_true c3
    clear c3
    by_cases c4:0≤x5_1
    ·rw [if_pos c4] at H
     have c4b0:decide (0≤x5_1)=true:=decide_eq_true c4
     clear c4
     by_cases c5:(rd l0 x5_1)=a1
     ·rw [if_pos c5] at H
      have c5b0:((rd l0 x5_1) == a1)=true:=beq_iff_eq.mpr c5
      have c5b1:((rd l0 x5_1) != a1)=false:=bne_eq_false_iff_eq.mpr c5
      clear c5
      obtain rfl:=Option.some.inj H
      have p176:0≤(x5_1:Int):=of_decide_eq_true qz6
      have q176:x5_1<(l0.length:Int):=of_decide_eq_true qz6
      obtain ⟨ad176,e176,hx176_0⟩:=Kd.at_int HR0.out x5_1 p176 q176
      cases e176
      replace p176:=eq_true p176
      replace q176:=eq_true q176
      go_wp2
      go_ret
      exact ⟨qz9,qz21⟩
     ·rw [if_neg c5] at H
      have c5b0:((rd l0 x5_1) == a1)=false:=beq_eq_false_iff_ne.mpr c5
      have c5b1:((rd l0 x5_1) != a1)=true:=bne_iff_ne.mpr c5
      have H':=Aside0.mk H
      clear H
      have p176:0≤(x5_1:Int):=of_decide_eq_true qz6
      have q176:x5_1<(l0.length:Int):=of_decide_eq_true qz6
      obtain ⟨ad176,e176,hx176_0⟩:=Kd.at_int HR0.out x5_1 p176 q176
      cases e176
      replace p176:=eq_true p176
      replace q176:=eq_true q176
      go_wp2
      go_roundg k1
      case measure=>have:=HK1.out;omega
      case rel=>exact ⟨(wrap64 (x5_1+1)),qz9,H',⟨by have:=HK1.out;omega⟩,qz21⟩
    ·rw [if_neg c4] at H
     exact absurd H (by simp)
   ·rw [if_neg c3] at H
    have c3b0:decide (x5_1<(l0.length:Int))=false:=decide_eq_false c3
    clear c3
    obtain rfl:=Option.some.inj H
    go_wp2
    go_ret
    exact ⟨qz9,qz21⟩

end Go.Proofs.YtlaicnoikeieeaaDoor.P
