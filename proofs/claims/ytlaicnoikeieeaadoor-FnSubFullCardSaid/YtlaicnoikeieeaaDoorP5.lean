/- Contracts of functions of the program: each as a Lean function, and that its call does what that says; printed by cprint.py (this session) over print.py of the kit. Conditions: the hypotheses of each theorem. -/
import Derived.Test.YtlaicnoikeieeaaDoorVZ
import Derived.Test.YtlaicnoikeieeaaDoorP0
import Derived.Test.YtlaicnoikeieeaaDoorP4
namespace Go.Proofs.YtlaicnoikeieeaaDoor.P
open Go.RowKit Go.Proofs.YtlaicnoikeieeaaDoorW.PrintWords Go.Proofs.YtlaicnoikeieeaaDoorW.PrintLast Go.Proofs.YtlaicnoikeieeaaDoorW.PrintMore
attribute [local go_sem] max2_int min2_int max_two min_two max_three min_three max_four min_four   -- for this text's walks alone
set_option linter.unusedVariables false
set_option linter.unusedSimpArgs false

/-! ### spec_TrmOk: function 30 -/
mutual
def spec_TrmOk.j0:Nat→List (S46)→Bool→Option (Bool)
 | 0,_,_=>none
 | k+1,x0,x11=>if x11=true then (some false) else (spec_TrmOk.l0 k x0 0)
def spec_TrmOk.l0:Nat→List (S46)→Int→Option (Bool)
 | 0,_,_=>none
 | k+1,x0,x3=>if x3<(x0.length:Int) then (if 0≤x3 then ((spec_l1Cell.f k ((rd_T46 x0 x3).f0) ((rd_T46 x0 x3).f1) ((rd_T46 x0 x3).f2)).bind fun t134=>(if t134=true then (spec_TrmOk.l0 k x0 (wrap64 (x3+1))) else (some false))) else (none)) else ((spec_l1End.f k x0 0).bind fun t132=>(some (t132 == (x0.length:Int))))
end
def spec_TrmOk.f (k:Nat) (l0:List (S46)):Option (Bool):=if (l0.length:Int)=0 then (spec_TrmOk.j0 k l0 true) else (spec_TrmOk.j0 k l0 (decide ((l0.length:Int) > 40)))
set_option maxHeartbeats 8000000 in
set_option maxRecDepth 100000 in
theorem spec_TrmOk.calls (k:Nat) (A0:Option Addr) (c0:Nat) (l0:List (S46)) (r:Bool) (w:World) (hr0:Kd.C k46 w A0 l0.length l0) (hc0:l0.length≤c0) (h:spec_TrmOk.f k l0=some r) :
  Calls Tryd.prog 30 #[.slice A0 l0.length c0] w fun e w'=>e = .returned (.bool r)∧Below w.heap.size w w':=by
 have hu46:=Tryd.underlying46
 have HR0:=Aside0.mk hr0
 have HC0:=Aside0.mk hc0
 clear hr0 hc0
 have HB:=Aside0.mk (Below.refl w.heap.size w)
 have H:(if (l0.length:Int)=0 then (spec_TrmOk.j0 k l0 true) else (spec_TrmOk.j0 k l0 (decide ((l0.length:Int) > 40))))=some r:=h
 clear h
 have HC2:=Aside0.mk H
 clear H
 go_enter Tryd.func30,Tryd.ntmps30
 go_upto_region 1 with (fail)
 go_cut [11] (fun v11 wc=>∃ (kq:Nat) (x11_1:Bool),v11 = .bool x11_1∧Aside0 (spec_TrmOk.j0 kq l0 x11_1=some r)∧Aside0 (kq≤k)∧Aside0 (Below w.heap.size w wc))
 case first=>
  have H:=HC2.out
  clear HC2
  by_cases c3:(l0.length:Int)=0
  ·rw [if_pos c3] at H
   have c3b0:((l0.length:Int) == 0)=true:=beq_iff_eq.mpr c3
   have c3b1:((l0.length:Int) != 0)=false:=bne_eq_false_iff_eq.mpr c3
   clear c3
   (first|rw [c3b0]|(simp only [i64_w,i32_w];rw [c3b0])|skip)
   have H':=Aside0.mk H
   clear H
   go_wp2
   go_meet
   case rel=>exact ⟨_,(true),qz9,H',⟨qz50⟩,⟨qz5⟩⟩
  ·rw [if_neg c3] at H
   have c3b0:((l0.length:Int) == 0)=false:=beq_eq_false_iff_ne.mpr c3
   have c3b1:((l0.length:Int) != 0)=true:=bne_iff_ne.mpr c3
   have c3b2:¬ (l0=[]):=fun h_=>c3 (by rw [h_];rfl)
   (first|rw [c3b0]|(simp only [i64_w,i32_w];rw [c3b0])|skip)
   have H':=Aside0.mk H
   clear H
   go_wp2
   go_meet
   case rel=>exact ⟨_,(decide ((l0.length:Int) > 40)),qz9,H',⟨qz50⟩,⟨qz5⟩⟩
 case rest=>
  clear HC2
  try clear p2
  try clear c3
  try clear c3b0
  try clear c3b1
  try clear c3b2
  obtain ⟨kq,x11_1,rfl,HA,HJ1,HB⟩:=hcut
  cases kq with
  | zero=>exact absurd HA.out (by simp [spec_TrmOk.j0])
  | succ kj1=>
   have H:=HA.out
   clear HA
   simp only [spec_TrmOk.j0] at H
   by_cases c4:x11_1=true
   ·subst c4
    have H1:(some false)=some r:=qz34
    clear H
    have H:=H1
    clear H1
    obtain rfl:=Option.some.inj H
    go_wp2
    go_ret
    exact ⟨qz7,qz5⟩
   ·replace c4:=Bool.eq_false_iff.mpr c4
    subst c4
    have H1:(spec_TrmOk.l0 kj1 l0 0)=some r:=qz21
    clear H
    have H:=H1
    clear H1
    have H':=Aside0.mk H
    clear H
    go_wp2
    go_loopg [3] kj1 (fun kq v3 w'=>∃ (x3_2:Int),v3 = .int .i64 x3_2∧Aside0 (spec_TrmOk.l0 kq l0 x3_2=some r)∧Aside0 (kq≤kj1)∧Aside0 (Below w.heap.size w w'))
    case atStart=>exact ⟨(0),qz9,H',⟨Nat.le_refl _⟩,⟨qz5⟩⟩
    case round=>
     clear H'
     try clear p2
     try clear c3
     try clear c3b0
     try clear c3b1
     try clear c3b2
     try clear c4
     try clear p2
     obtain ⟨x3_2,rfl,HA,HK2,HB⟩:=hrel
     cases gk with
     | zero=>exact absurd HA.out (by simp [spec_TrmOk.l0])
     | succ k2=>
      have H:=HA.out
      clear HA
      simp only [spec_TrmOk.l0] at H
      by_cases c5:x3_2<(l0.length:Int)
      ·rw [if_pos c5] at H
       have c5b0:decide (x3_2<(l0.length:Int))=true:=decide_eq_true c5
       clear c5
       by_cases c6:0≤x3_2
       ·rw [if_pos c6] at H
        have c6b0:decide (0≤x3_2)=true:=decide_eq_true c6
        clear c6
        replace H:=Option.bind_eq_some_iff.mp H
        obtain ⟨t134,A70,H⟩:=H
        try dsimp only at H
        have A7:=Aside0.mk A70
        clear A70
        by_cases c8:t134=true
        ·subst c8
         have H1:(spec_TrmOk.l0 k2 l0 (wrap64 (x3_2+1)))=some r:=qz34
         clear H
         have H:=H1
         clear H1
         have H':=Aside0.mk H
         clear H
         have p133:0≤(x3_2:Int):=of_decide_eq_true qz6
         have q133:x3_2<(l0.length:Int):=of_decide_eq_true qz6
         obtain ⟨ad133,e133,hx133_0,hx133_1,hx133_2⟩:=at_T46 HR0.out x3_2 p133 q133
         cases e133
         replace hx133_0:=(HB.out.cell (World.block_lt_of_cell? w _ hx133_0)).trans hx133_0
         replace hx133_1:=(HB.out.cell (World.block_lt_of_cell? w _ hx133_1)).trans hx133_1
         replace hx133_2:=(HB.out.cell (World.block_lt_of_cell? w _ hx133_2)).trans hx133_2
         replace p133:=eq_true p133
         replace q133:=eq_true q133
         go_wp2_with (first|(go_at_call 67;(with_reducible refine (spec_l1Cell.calls k2 ((rd_T46 l0 x3_2).f0) ((rd_T46 l0 x3_2).f1) ((rd_T46 l0 x3_2).f2) true _ A7.out).mono ?_);rintro e w9 ⟨rfl,hb⟩;have n0_:=Aside0.mk (below_step qz4 hb);clear HB;have HB:=n0_;clear n0_;(try clear hb);(try clear hb2);(try clear hk);(try clear hi)))
         go_roundg k2
         case measure=>have:=HJ1.out;have:=HK2.out;omega
         case rel=>exact ⟨(wrap64 (x3_2+1)),qz9,H',⟨by have:=HJ1.out;have:=HK2.out;omega⟩,⟨qz5⟩⟩
        ·replace c8:=Bool.eq_false_iff.mpr c8
         subst c8
         have H1:(some false)=some r:=qz21
         clear H
         have H:=H1
         clear H1
         obtain rfl:=Option.some.inj H
         have p133:0≤(x3_2:Int):=of_decide_eq_true qz6
         have q133:x3_2<(l0.length:Int):=of_decide_eq_true qz6
         obtain ⟨ad133,e133,hx133_0,hx133_1,hx133_2⟩:=at_T46 HR0.out x3_2 p133 q133
         cases e133
         replace hx133_0:=(HB.out.cell (World.block_lt_of_cell? w _ hx133_0)).trans hx133_0
         replace hx133_1:=(HB.out.cell (World.block_lt_of_cell? w _ hx133_1)).trans hx133_1
         replace hx133_2:=(HB.out.cell (World.block_lt_of_cell? w _ hx133_2)).trans hx133_2
         replace p133:=eq_true p133
         replace q133:=eq_true q133
         go_wp2_with (first|(go_at_call 67;(with_reducible refine (spec_l1Cell.calls k2 ((rd_T46 l0 x3_2).f0) ((rd_T46 l0 x3_2).f1) ((rd_T46 l0 x3_2).f2) false _ A7.out).mono ?_);rintro e w10 ⟨rfl,hb⟩;have n0_:=Aside0.mk (below_step qz4 hb);clear HB;have HB:=n0_;clear n0_;(try clear hb);(try clear hb2);(try clear hk);(try clear hi)))
         go_ret
         exact ⟨qz7,qz5⟩
       ·rw [if_neg c6] at H
        exact absurd H (by simp)
      ·rw [if_neg c5] at H
       have c5b0:decide (x3_2<(l0.length:Int))=false:=decide_eq_false c5
       clear c5
       replace H:=Option.bind_eq_some_iff.mp H
       obtain ⟨t132,A110,H⟩:=H
       try dsimp only at H
       have A11:=Aside0.mk A110
       clear A110
       obtain rfl:=Option.some.inj H
       go_wp2_with (first|(go_at_call 68;(with_reducible refine (spec_l1End.calls k2 _ _ l0 0 t132 _ ?side1 ?side2 A11.out).mono ?_);(case side1=>exact qz36);(case side2=>exact HC0.out);rintro e w' ⟨rfl,⟨nd,rfl⟩⟩))
       go_ret
       exact ⟨qz7,qz5⟩

/-! ### spec_l1Has: function 58 -/
def spec_l1Has.l0:Nat→List Int→Int→Int→Option (Bool)
 | 0,_,_,_=>none
 | k+1,x0,x1,x5=>if x5<(x0.length:Int) then (if 0≤x5 then (if (rd x0 x5)=x1 then (some true) else (spec_l1Has.l0 k x0 x1 (wrap64 (x5+1)))) else (none)) else (some false)
def spec_l1Has.f (k:Nat) (l0:List Int) (a1:Int):Option (Bool):=spec_l1Has.l0 k l0 a1 0
set_option maxHeartbeats 8000000 in
set_option maxRecDepth 100000 in
theorem spec_l1Has.calls (k:Nat) (A0:Option Addr) (c0:Nat) (l0:List Int) (a1:Int) (r:Bool) (w:World) (hr0:Kd.C (Kd.int .i64) w A0 l0.length l0) (hc0:l0.length≤c0) (h:spec_l1Has.f k l0 a1=some r) :
  Calls Tryd.prog 58 #[.slice A0 l0.length c0,.int .i64 a1] w fun e w'=>e = .returned (.bool r)∧Drawn0 w w':=by
 have HR0:=Aside0.mk hr0
 have HC0:=Aside0.mk hc0
 clear hr0 hc0
 have H:(spec_l1Has.l0 k l0 a1 0)=some r:=h
 clear h
 have H':=Aside0.mk H
 clear H
 go_enter Tryd.func58,Tryd.ntmps58
 go_wp2
 go_loopg [5] k (fun kq v5 w'=>∃ (x5_1:Int),v5 = .int .i64 x5_1∧Aside0 (spec_l1Has.l0 kq l0 a1 x5_1=some r)∧Aside0 (kq≤k)∧Drawn0 w w')
 case atStart=>exact ⟨(0),qz9,H',⟨Nat.le_refl _⟩,qz24⟩
 case round=>
  clear H'
  try clear p2
  obtain ⟨x5_1,rfl,HA,HK1,⟨m1,rfl⟩⟩:=hrel
  cases gk with
  | zero=>exact absurd HA.out (by simp [spec_l1Has.l0])
  | succ k1=>
   have H:=HA.out
   clear HA
   simp only [spec_l1Has.l0] at H
   by_cases c3:x5_1<(l0.length:Int)
   ·rw [if_pos c3] at H
    have c3b0:decide (x5_1<(l0.length:Int))=true:=decide_eq_true c3
    clear c3
    by_cases c4:0≤x5_1
    ·rw [if_pos c4] at H
     have c4b0:decide (0≤x5_1)=true:=decide_eq_true c4
     clear c4
     by_cases c5:(rd l0 x5_1)=a1
     ·rw [if_pos c5] at H
      have c5b0:((rd l0 x5_1) == a1)=true:=beq_iff_eq.mpr c5
      have c5b1:((rd l0 x5_1) != a1)=false:=bne_eq_false_iff_eq.mpr c5
      clear c5
      obtain rfl:=Option.some.inj H
      have p135:0≤(x5_1:Int):=of_decide_eq_true qz6
      have q135:x5_1<(l0.length:Int):=of_decide_eq_true qz6
      obtain ⟨ad135,e135,hx135_0⟩:=Kd.at_int HR0.out x5_1 p135 q135
      cases e135
      replace p135:=eq_true p135
      replace q135:=eq_true q135
      go_wp2
      go_ret
      exact ⟨qz9,qz24⟩
     ·rw [if_neg c5] at H
      have c5b0:((rd l0 x5_1) == a1)=false:=beq_eq_false_iff_ne.mpr c5
      have c5b1:((rd l0 x5_1) != a1)=true:=bne_iff_ne.mpr c5
      have H':=Aside0.mk H
      clear H
      have p135:0≤(x5_1:Int):=of_decide_eq_true qz6
      have q135:x5_1<(l0.length:Int):=of_decide_eq_true qz6
      obtain ⟨ad135,e135,hx135_0⟩:=Kd.at_int HR0.out x5_1 p135 q135
      cases e135
      replace p135:=eq_true p135
      replace q135:=eq_true q135
      go_wp2
      go_roundg k1
      case measure=>have:=HK1.out;omega
      case rel=>exact ⟨(wrap64 (x5_1+1)),qz9,H',⟨by have:=HK1.out;omega⟩,qz24⟩
    ·rw [if_neg c4] at H
     exact absurd H (by simp)
   ·rw [if_neg c3] at H
    have c3b0:decide (x5_1<(l0.length:Int))=false:=decide_eq_false c3
    clear c3
    obtain rfl:=Option.some.inj H
    go_wp2
    go_ret
    exact ⟨qz9,qz24⟩

/-! ### spec_TrmFree: function 48 -/
def spec_TrmFree.l0:Nat→List (S46)→List Int→Int→Option (List Int)
 | 0,_,_,_=>none
 | k+1,x0,x3,x4=>if x4<(x0.length:Int) then (if 0≤x4 then (if ((rd_T46 x0 x4).f0)=1 then ((spec_l1Has.f k x3 ((rd_T46 x0 x4).f1)).bind fun t141=>(if t141=true then (spec_TrmFree.l0 k x0 x3 (wrap64 (x4+1))) else (if x3.length<17592186044416 then (spec_TrmFree.l0 k x0 (x3++[(rd_T46 x0 x4).f1]) (wrap64 (x4+1))) else (none)))) else (spec_TrmFree.l0 k x0 x3 (wrap64 (x4+1)))) else (none)) else (some x3)
def spec_TrmFree.f (k:Nat) (l0:List (S46)):Option (List Int):=spec_TrmFree.l0 k l0 (([]:List Int)) 0
set_option maxHeartbeats 8000000 in
set_option maxRecDepth 100000 in
theorem spec_TrmFree.calls (k:Nat) (A0:Option Addr) (c0:Nat) (l0:List (S46)) (r:List Int) (w:World) (hr0:Kd.C k46 w A0 l0.length l0) (hc0:l0.length≤c0) (h:spec_TrmFree.f k l0=some r) :
  Calls Tryd.prog 48 #[.slice A0 l0.length c0] w fun e w'=>∃ v0_:Value,e = .returned (v0_)∧Kd.R (Kd.int .i64) 3 w' w.heap.size (fun _=>True) v0_ r∧Below w.heap.size w w':=by
 have HR0:=Aside0.mk hr0
 have HC0:=Aside0.mk hc0
 clear hr0 hc0
 have HB:=Aside0.mk (Below.refl w.heap.size w)
 have H:(spec_TrmFree.l0 k l0 (([]:List Int)) 0)=some r:=h
 clear h
 obtain ⟨y136,hy136⟩:∃ y_:List Int,y_=(([]:List Int)):=⟨_,rfl⟩
 replace H:(spec_TrmFree.l0 k l0 y136 0)=some r:=by first|(rw [hy136];exact H)|exact H
 have Ny136:=Aside0.mk hy136
 clear hy136
 have H':=Aside0.mk H
 clear H
 go_enter Tryd.func48,Tryd.ntmps48
 go_wp2_with (first|((with_reducible refine gate_dst (N:=5) rfl ?_);refine Kd.R_lit (Kd.int .i64) _ 3 ?hg (N:=5) ?hd (xs:=([]:List Int)) (inner:=[]) (ok:=fun _=>True) (okp:=fun _=>True) ?hr ?hp (fun _ hk=>hk) trivial (Below.refl _ _) (Nat.le_refl _) (by simp) ?_;(case hd=>rfl);(case hg=>rfl);(case hr=>first|(go_simp;done)|(go_simp;rfl));(case hp=>exact (Reps.none _ _));intro v137 w2 ho3 hb hg_ hnew_;clear hg_ hnew_;(first|rw [← Ny136.out] at ho3|(simp only [Int.reduceToNat] at ho3;rw [← Ny136.out] at ho3));have n0_:=Aside0.mk (Kd.R_lower ho3 (below_size qz4));have n1_:=Aside0.mk (below_step qz4 hb);clear HB;have HO138:=n0_;have HB:=n1_;clear n0_ n1_ hb ho3))
 go_loopg [3,4] k (fun kq v3 v4 w'=>∃ (x3_1:List Int) (x4_1:Int),v4 = .int .i64 x4_1∧Aside0 (spec_TrmFree.l0 kq l0 x3_1 x4_1=some r)∧Aside0 (kq≤k)∧Aside0 (Kd.R (Kd.int .i64) 3 w' w.heap.size (fun _=>True) v3 x3_1)∧Aside0 (Below w.heap.size w w'))
 case atStart=>exact ⟨(y136),(0),qz9,H',⟨Nat.le_refl _⟩,⟨by (with_reducible repeat (first|apply Kd.R_alloc|apply Kd.R_drewN|apply Kd.R_drew));exact HO138.out⟩,⟨qz5⟩⟩
 case round=>
  clear H'
  try clear p2
  obtain ⟨x3_1,x4_1,rfl,HA,HK1,HO_3,HB⟩:=hrel
  cases gk with
  | zero=>exact absurd HA.out (by simp [spec_TrmFree.l0])
  | succ k1=>
   have H:=HA.out
   clear HA
   simp only [spec_TrmFree.l0] at H
   by_cases c4:x4_1<(l0.length:Int)
   ·rw [if_pos c4] at H
    have c4b0:decide (x4_1<(l0.length:Int))=true:=decide_eq_true c4
    clear c4
    by_cases c5:0≤x4_1
    ·rw [if_pos c5] at H
     have c5b0:decide (0≤x4_1)=true:=decide_eq_true c5
     clear c5
     by_cases c6:((rd_T46 l0 x4_1).f0)=1
     ·rw [if_pos c6] at H
      have c6b0:(((rd_T46 l0 x4_1).f0) == 1)=true:=beq_iff_eq.mpr c6
      have c6b1:(((rd_T46 l0 x4_1).f0) != 1)=false:=bne_eq_false_iff_eq.mpr c6
      clear c6
      replace H:=Option.bind_eq_some_iff.mp H
      obtain ⟨t141,A70,H⟩:=H
      try dsimp only at H
      have A7:=Aside0.mk A70
      clear A70
      by_cases c8:t141=true
      ·subst c8
       have H1:(spec_TrmFree.l0 k1 l0 x3_1 (wrap64 (x4_1+1)))=some r:=qz34
       clear H
       have H:=H1
       clear H1
       have H':=Aside0.mk H
       clear H
       have p139:0≤(x4_1:Int):=of_decide_eq_true qz6
       have q139:x4_1<(l0.length:Int):=of_decide_eq_true qz6
       obtain ⟨ad139,e139,hx139_0,hx139_1,hx139_2⟩:=at_T46 HR0.out x4_1 p139 q139
       cases e139
       replace hx139_0:=(HB.out.cell (World.block_lt_of_cell? w _ hx139_0)).trans hx139_0
       replace hx139_1:=(HB.out.cell (World.block_lt_of_cell? w _ hx139_1)).trans hx139_1
       replace hx139_2:=(HB.out.cell (World.block_lt_of_cell? w _ hx139_2)).trans hx139_2
       replace p139:=eq_true p139
       replace q139:=eq_true q139
       have p140:0≤(x4_1:Int):=of_decide_eq_true qz6
       have q140:x4_1<(l0.length:Int):=of_decide_eq_true qz6
       obtain ⟨ad140,e140,hx140_0,hx140_1,hx140_2⟩:=at_T46 HR0.out x4_1 p140 q140
       obtain rfl:ad139=ad140:=(by injection e140)
       replace hx140_0:=(HB.out.cell (World.block_lt_of_cell? w _ hx140_0)).trans hx140_0
       replace hx140_1:=(HB.out.cell (World.block_lt_of_cell? w _ hx140_1)).trans hx140_1
       replace hx140_2:=(HB.out.cell (World.block_lt_of_cell? w _ hx140_2)).trans hx140_2
       replace p140:=eq_true p140
       replace q140:=eq_true q140
       obtain ⟨Ao9,co9,eo9⟩:=Kd.R_slice HO_3.out
       subst eo9
       go_wp2_with (first|(go_at_call 58;(with_reducible refine (spec_l1Has.calls k1 _ _ x3_1 ((rd_T46 l0 x4_1).f1) true _ ?side1 ?side2 A7.out).mono ?_);(case side1=>exact qz81);(case side2=>exact (Kd.R_reads' HO_3.out).2.1);rintro e w' ⟨rfl,⟨nd,rfl⟩⟩))
       go_roundg k1
       case measure=>have:=HK1.out;omega
       case rel=>exact ⟨(x3_1),(wrap64 (x4_1+1)),qz9,H',⟨by have:=HK1.out;omega⟩,⟨qz42⟩,⟨qz5⟩⟩
      ·replace c8:=Bool.eq_false_iff.mpr c8
       subst c8
       have H1:(if x3_1.length<17592186044416 then (spec_TrmFree.l0 k1 l0 (x3_1++[(rd_T46 l0 x4_1).f1]) (wrap64 (x4_1+1))) else (none))=some r:=qz21
       clear H
       have H:=H1
       clear H1
       by_cases c10:x3_1.length<17592186044416
       ·rw [if_pos c10] at H
        have LMc10:=Aside0.mk c10
        clear c10
        obtain ⟨y143,hy143⟩:∃ y_:List Int,y_=(x3_1++[(rd_T46 l0 x4_1).f1]):=⟨_,rfl⟩
        replace H:(spec_TrmFree.l0 k1 l0 y143 (wrap64 (x4_1+1)))=some r:=by first|(rw [hy143];exact H)|exact H
        have Ny143:=Aside0.mk hy143
        clear hy143
        have H':=Aside0.mk H
        clear H
        have p139:0≤(x4_1:Int):=of_decide_eq_true qz6
        have q139:x4_1<(l0.length:Int):=of_decide_eq_true qz6
        obtain ⟨ad139,e139,hx139_0,hx139_1,hx139_2⟩:=at_T46 HR0.out x4_1 p139 q139
        cases e139
        replace hx139_0:=(HB.out.cell (World.block_lt_of_cell? w _ hx139_0)).trans hx139_0
        replace hx139_1:=(HB.out.cell (World.block_lt_of_cell? w _ hx139_1)).trans hx139_1
        replace hx139_2:=(HB.out.cell (World.block_lt_of_cell? w _ hx139_2)).trans hx139_2
        replace p139:=eq_true p139
        replace q139:=eq_true q139
        have p140:0≤(x4_1:Int):=of_decide_eq_true qz6
        have q140:x4_1<(l0.length:Int):=of_decide_eq_true qz6
        obtain ⟨ad140,e140,hx140_0,hx140_1,hx140_2⟩:=at_T46 HR0.out x4_1 p140 q140
        obtain rfl:ad139=ad140:=(by injection e140)
        replace hx140_0:=(HB.out.cell (World.block_lt_of_cell? w _ hx140_0)).trans hx140_0
        replace hx140_1:=(HB.out.cell (World.block_lt_of_cell? w _ hx140_1)).trans hx140_1
        replace hx140_2:=(HB.out.cell (World.block_lt_of_cell? w _ hx140_2)).trans hx140_2
        replace p140:=eq_true p140
        replace q140:=eq_true q140
        obtain ⟨Ao11,co11,eo11⟩:=Kd.R_slice HO_3.out
        subst eo11
        go_wp2_with (first|(go_at_call 58;(with_reducible refine (spec_l1Has.calls k1 _ _ x3_1 ((rd_T46 l0 x4_1).f1) false _ ?side1 ?side2 A7.out).mono ?_);(case side1=>exact qz81);(case side2=>exact (Kd.R_reads' HO_3.out).2.1);rintro e w' ⟨rfl,⟨nd,rfl⟩⟩;have p142:0≤(x4_1:Int):=of_decide_eq_true qz6;have q142:x4_1<(l0.length:Int):=of_decide_eq_true qz6;obtain ⟨ad142,e142,hx142_0,hx142_1,hx142_2⟩:=at_T46 HR0.out x4_1 p142 q142;obtain rfl:ad139=ad142:=(by injection e142);replace hx142_0:=(HB.out.cell (World.block_lt_of_cell? w _ hx142_0)).trans hx142_0;replace hx142_1:=(HB.out.cell (World.block_lt_of_cell? w _ hx142_1)).trans hx142_1;replace hx142_2:=(HB.out.cell (World.block_lt_of_cell? w _ hx142_2)).trans hx142_2;replace p142:=eq_true p142;replace q142:=eq_true q142)|((with_reducible refine gate_builtin (b:=.append) (xs:=#[.tmp 28,.tmp 34]) rfl ?_);at_builtin;refine Kd.R_append (Kd.int .i64) (w0:=w) w.heap.size rfl (.tmp 28) (.tmp 34) 43 3 (.int .i64 0) 8 rfl Tryd.underlying43 info3 rfl (by decide) (by omega) (.slice Ao11 x3_1.length co11) x3_1 ((rd_T46 l0 x4_1).f1) [.int .i64 ((rd_T46 l0 x4_1).f1)] (fun _=>True) (fun _=>False) rfl rfl ?aP (fun _ hk=>hk.elim) ?aF ?aO ?aB ?aS ?aL ?_;(case aP=>exact rfl);(case aB=>exact qz4);(case aF=>exact (fun _ _=>trivial));(case aO=>exact qz42);(case aS=>exact (below_size qz4));(case aL=>have:=LMc10.out;omega);intro v144 w12 ho hb hg hat;rw [← Ny143.out] at ho;have n0_:=Aside0.mk (hb);have n1_:=Aside0.mk (ho);clear HB HO_3;have HB:=n0_;have HO145:=n1_;clear n0_ n1_ ho hb hg hat))
        go_roundg k1
        case measure=>have:=HK1.out;omega
        case rel=>exact ⟨(y143),(wrap64 (x4_1+1)),qz9,H',⟨by have:=HK1.out;omega⟩,⟨by (with_reducible repeat (first|apply Kd.R_alloc|apply Kd.R_drewN|apply Kd.R_drew));exact HO145.out⟩,⟨qz5⟩⟩
       ·rw [if_neg c10] at H
        exact absurd H (by simp)
     ·rw [if_neg c6] at H
      have c6b0:(((rd_T46 l0 x4_1).f0) == 1)=false:=beq_eq_false_iff_ne.mpr c6
      have c6b1:(((rd_T46 l0 x4_1).f0) != 1)=true:=bne_iff_ne.mpr c6
      have H':=Aside0.mk H
      clear H
      have p139:0≤(x4_1:Int):=of_decide_eq_true qz6
      have q139:x4_1<(l0.length:Int):=of_decide_eq_true qz6
      obtain ⟨ad139,e139,hx139_0,hx139_1,hx139_2⟩:=at_T46 HR0.out x4_1 p139 q139
      cases e139
      replace hx139_0:=(HB.out.cell (World.block_lt_of_cell? w _ hx139_0)).trans hx139_0
      replace hx139_1:=(HB.out.cell (World.block_lt_of_cell? w _ hx139_1)).trans hx139_1
      replace hx139_2:=(HB.out.cell (World.block_lt_of_cell? w _ hx139_2)).trans hx139_2
      replace p139:=eq_true p139
      replace q139:=eq_true q139
      go_wp2
      go_roundg k1
      case measure=>have:=HK1.out;omega
      case rel=>exact ⟨(x3_1),(wrap64 (x4_1+1)),qz9,H',⟨by have:=HK1.out;omega⟩,⟨qz42⟩,⟨qz5⟩⟩
    ·rw [if_neg c5] at H
     exact absurd H (by simp)
   ·rw [if_neg c4] at H
    have c4b0:decide (x4_1<(l0.length:Int))=false:=decide_eq_false c4
    clear c4
    obtain rfl:=Option.some.inj H
    go_wp2
    go_ret
    exact ⟨_,qz7,qz42,qz5⟩

/-! ### spec_l2Get: function 92 -/
def spec_l2Get.l0:Nat→List (S30)→Int→Int→Option ((List (S46)))
 | 0,_,_,_=>none
 | k+1,x0,x1,x5=>if x5<(x0.length:Int) then (if 0≤x5 then (if ((rd_T30 x0 x5).f0)=x1 then (some ((rd_T30 x0 x5).f1)) else (spec_l2Get.l0 k x0 x1 (wrap64 (x5+1)))) else (none)) else (some (([]:List (S46))))
def spec_l2Get.f (k:Nat) (l0:List (S30)) (a1:Int):Option ((List (S46))):=spec_l2Get.l0 k l0 a1 0
set_option maxHeartbeats 8000000 in
set_option maxRecDepth 100000 in
theorem spec_l2Get.calls (k:Nat) (P0_:Nat→Prop) (A0:Option Addr) (c0:Nat) (l0:List (S30)) (a1:Int) (r:List (S46)) (w:World) (hs0:Kd.V k30 30 w w.heap.size (fun k_=>P0_ k_) (.slice A0 l0.length c0) l0) (h:spec_l2Get.f k l0 a1=some r) :
  Calls Tryd.prog 92 #[.slice A0 l0.length c0,.int .i64 a1] w fun e w'=>∃ v0_:Value,e = .returned (v0_)∧Kd.V k46 46 w' w.heap.size (fun k_=>(P0_ k_∨w.heap.size≤k_)) v0_ r∧Below w.heap.size w w':=by
 have HO0:=Aside0.mk (show Kd.V k30 30 w w.heap.size (fun k_=>(P0_ k_∨w.heap.size≤k_)) (.slice A0 l0.length c0) l0 from Kd.V_mono hs0 (fun k_ hk=>.inl hk))
 have HB:=Aside0.mk (Below.refl w.heap.size w)
 have H:(spec_l2Get.l0 k l0 a1 0)=some r:=h
 clear h
 have H':=Aside0.mk H
 clear H
 go_enter Tryd.func92,Tryd.ntmps92
 go_wp2
 go_loopg [5] k (fun kq v5 w'=>∃ (x5_1:Int),v5 = .int .i64 x5_1∧Aside0 (spec_l2Get.l0 kq l0 a1 x5_1=some r)∧Aside0 (kq≤k)∧Aside0 (Kd.V k30 30 w' w.heap.size (fun k_=>(P0_ k_∨w.heap.size≤k_)) (.slice A0 l0.length c0) l0)∧Aside0 (Below w.heap.size w w'))
 case atStart=>exact ⟨(0),qz9,H',⟨Nat.le_refl _⟩,⟨by (with_reducible repeat (first|apply Kd.V_alloc|apply Kd.V_drewN|apply Kd.V_drew));exact HO0.out⟩,⟨qz5⟩⟩
 case round=>
  clear H'
  try clear p2
  obtain ⟨x5_1,rfl,HA,HK1,HO_0,HB⟩:=hrel
  cases gk with
  | zero=>exact absurd HA.out (by simp [spec_l2Get.l0])
  | succ k1=>
   have H:=HA.out
   clear HA
   simp only [spec_l2Get.l0] at H
   by_cases c3:x5_1<(l0.length:Int)
   ·rw [if_pos c3] at H
    have c3b0:decide (x5_1<(l0.length:Int))=true:=decide_eq_true c3
    clear c3
    by_cases c4:0≤x5_1
    ·rw [if_pos c4] at H
     have c4b0:decide (0≤x5_1)=true:=decide_eq_true c4
     clear c4
     by_cases c5:((rd_T30 l0 x5_1).f0)=a1
     ·rw [if_pos c5] at H
      have c5b0:(((rd_T30 l0 x5_1).f0) == a1)=true:=beq_iff_eq.mpr c5
      have c5b1:(((rd_T30 l0 x5_1).f0) != a1)=false:=bne_eq_false_iff_eq.mpr c5
      clear c5
      obtain rfl:=Option.some.inj H
      have p149:0≤(x5_1:Int):=of_decide_eq_true qz6
      have q149:x5_1<(l0.length:Int):=of_decide_eq_true qz6
      obtain ⟨ad149,A149_1,c149_1,e149,hx149_0,hx149_1,hl149_1,hi149_1⟩:=at_T30 (Kd.V_reads' HO_0.out).2.2 x5_1 p149 q149
      cases e149
      obtain ⟨ce149,hce149,hMe149,hcc149⟩:=Kd.V_get HO_0.out z30 x5_1 p149 (by first|exact q149|exact of_decide_eq_true qz6|(have e_:=(Kd.V_reads' HO_0.out).1;omega))
      obtain ⟨ua149_1,uc149_1,rfl,ul149_1,ge149_1⟩:=k30_openF hMe149
      have hv149_1:=hcc149 1 _ rfl
      rw [add_field _ _ 1 (by omega)] at hv149_1
      replace hv149_1:=Option.some.inj (hv149_1.symm.trans hx149_1)
      injection hv149_1 with hva_ hvn_ hvc_
      rw [hva_] at ge149_1
      rw [hvc_] at ul149_1
      have HL149_1:=Aside0.mk (show Kd.V k46 46 _ w.heap.size _ _ ((rd_T30 l0 x5_1).f1) from Kd.V_mk ul149_1 ge149_1)
      clear hva_ hvn_ hvc_ ge149_1 ul149_1 hcc149 hce149
      have HR149_1:=Aside0.mk hi149_1
      have HC149_1:=Aside0.mk hl149_1
      clear hi149_1 hl149_1
      replace p149:=eq_true p149
      replace q149:=eq_true q149
      have p150:0≤(x5_1:Int):=of_decide_eq_true qz6
      have q150:x5_1<(l0.length:Int):=of_decide_eq_true qz6
      obtain ⟨ad150,A150_1,c150_1,e150,hx150_0,hx150_1,hl150_1,hi150_1⟩:=at_T30 (Kd.V_reads' HO_0.out).2.2 x5_1 p150 q150
      obtain rfl:ad149=ad150:=(by injection e150)
      obtain ⟨ce150,hce150,hMe150,hcc150⟩:=Kd.V_get HO_0.out z30 x5_1 p150 (by first|exact q150|exact of_decide_eq_true qz6|(have e_:=(Kd.V_reads' HO_0.out).1;omega))
      obtain ⟨ua150_1,uc150_1,rfl,ul150_1,ge150_1⟩:=k30_openF hMe150
      have hv150_1:=hcc150 1 _ rfl
      rw [add_field _ _ 1 (by omega)] at hv150_1
      replace hv150_1:=Option.some.inj (hv150_1.symm.trans hx150_1)
      injection hv150_1 with hva_ hvn_ hvc_
      rw [hva_] at ge150_1
      rw [hvc_] at ul150_1
      have HL150_1:=Aside0.mk (show Kd.V k46 46 _ w.heap.size _ _ ((rd_T30 l0 x5_1).f1) from Kd.V_mk ul150_1 ge150_1)
      clear hva_ hvn_ hvc_ ge150_1 ul150_1 hcc150 hce150
      have HR150_1:=Aside0.mk hi150_1
      have HC150_1:=Aside0.mk hl150_1
      clear hi150_1 hl150_1
      replace p150:=eq_true p150
      replace q150:=eq_true q150
      have ea_:=Option.some.inj (hx149_1.symm.trans hx150_1)
      injection ea_ with ea_ en_ ec_
      subst ea_
      subst ec_
      clear en_
      go_wp2
      go_ret
      exact ⟨_,qz7,by (with_reducible repeat (first|apply Kd.V_alloc|apply Kd.V_drewN|apply Kd.V_drew));exact HL150_1.out,qz5⟩
     ·rw [if_neg c5] at H
      have c5b0:(((rd_T30 l0 x5_1).f0) == a1)=false:=beq_eq_false_iff_ne.mpr c5
      have c5b1:(((rd_T30 l0 x5_1).f0) != a1)=true:=bne_iff_ne.mpr c5
      have H':=Aside0.mk H
      clear H
      have p149:0≤(x5_1:Int):=of_decide_eq_true qz6
      have q149:x5_1<(l0.length:Int):=of_decide_eq_true qz6
      obtain ⟨ad149,A149_1,c149_1,e149,hx149_0,hx149_1,hl149_1,hi149_1⟩:=at_T30 (Kd.V_reads' HO_0.out).2.2 x5_1 p149 q149
      cases e149
      obtain ⟨ce149,hce149,hMe149,hcc149⟩:=Kd.V_get HO_0.out z30 x5_1 p149 (by first|exact q149|exact of_decide_eq_true qz6|(have e_:=(Kd.V_reads' HO_0.out).1;omega))
      obtain ⟨ua149_1,uc149_1,rfl,ul149_1,ge149_1⟩:=k30_openF hMe149
      have hv149_1:=hcc149 1 _ rfl
      rw [add_field _ _ 1 (by omega)] at hv149_1
      replace hv149_1:=Option.some.inj (hv149_1.symm.trans hx149_1)
      injection hv149_1 with hva_ hvn_ hvc_
      rw [hva_] at ge149_1
      rw [hvc_] at ul149_1
      have HL149_1:=Aside0.mk (show Kd.V k46 46 _ w.heap.size _ _ ((rd_T30 l0 x5_1).f1) from Kd.V_mk ul149_1 ge149_1)
      clear hva_ hvn_ hvc_ ge149_1 ul149_1 hcc149 hce149
      have HR149_1:=Aside0.mk hi149_1
      have HC149_1:=Aside0.mk hl149_1
      clear hi149_1 hl149_1
      replace p149:=eq_true p149
      replace q149:=eq_true q149
      go_wp2
      go_roundg k1
      case measure=>have:=HK1.out;omega
      case rel=>exact ⟨(wrap64 (x5_1+1)),qz9,H',⟨by have:=HK1.out;omega⟩,⟨qz52⟩,⟨qz5⟩⟩
    ·rw [if_neg c4] at H
     exact absurd H (by simp)
   ·rw [if_neg c3] at H
    have c3b0:decide (x5_1<(l0.length:Int))=false:=decide_eq_false c3
    clear c3
    obtain ⟨y146,hy146⟩:∃ y_:List (S46),y_=(([]:List (S46))):=⟨_,rfl⟩
    replace H:(some y146)=some r:=by first|(rw [hy146];exact H)|exact H
    have Ny146:=Aside0.mk hy146
    clear hy146
    obtain rfl:=Option.some.inj H
    go_wp2_with (first|((with_reducible refine gate_dst (N:=24) rfl ?_);refine Kd.R_lit k46 _ 46 ?hg (N:=24) ?hd (xs:=([]:List (S46))) (inner:=[]) (ok:=fun _=>True) (okp:=fun _=>True) ?hr ?hp (fun _ hk=>hk) trivial (Below.refl _ _) (Nat.le_refl _) (by simp) ?_;(case hd=>rfl);(case hg=>rfl);(case hr=>first|(go_simp;done)|(go_simp;rfl));(case hp=>exact (Reps.none _ _));intro v147 w6 ho7 hb hg_ hnew_;clear hg_ hnew_;(first|rw [← Ny146.out] at ho7|(simp only [Int.reduceToNat] at ho7;rw [← Ny146.out] at ho7));have n0_:=Aside0.mk (Kd.V_elder' qz52 (Kd.R_base ho7) hb);have n1_:=Aside0.mk (Kd.R_lower (Kd.R_newM (M:=fun k_=>(w.heap.size≤k_)) ho7 (below_size qz4) (fun k_ h_=>h_)) (below_size qz4));have n2_:=Aside0.mk (below_step qz4 hb);clear HO_0 HB;have HO_0:=n0_;have HO148:=n1_;have HB:=n2_;clear n0_ n1_ n2_ hb ho7))
    go_ret
    exact ⟨_,qz7,Kd.V_mono (Kd.R_V (by (with_reducible repeat (first|apply Kd.R_alloc|apply Kd.R_drewN|apply Kd.R_drew));exact Kd.R_mono HO148.out (fun _ hk=>hk.1))) (fun k_ hk=>by first|exact ⟨(.inr (hk.1)),hk.2⟩|exact (.inr (hk))),qz5⟩

end Go.Proofs.YtlaicnoikeieeaaDoor.P
