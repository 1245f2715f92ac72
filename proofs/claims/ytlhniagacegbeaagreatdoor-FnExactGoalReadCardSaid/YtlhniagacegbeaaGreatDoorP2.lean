/- Contracts of functions of the program: each as a Lean function, and that its call does what that says; printed by cprint.py (this session) over print.py of the kit. Conditions: the hypotheses of each theorem. -/
import Derived.Test.YtlhniagacegbeaaGreatDoorVZ
import Derived.Test.YtlhniagacegbeaaGreatDoorP0
import Derived.Test.YtlhniagacegbeaaGreatDoorP1
namespace Go.Proofs.YtlhniagacegbeaaGreatDoor.P
open Go.RowKit Go.Proofs.YtlhniagacegbeaaGreatDoorW.PrintWords Go.Proofs.YtlhniagacegbeaaGreatDoorW.PrintLast Go.Proofs.YtlhniagacegbeaaGreatDoorW.PrintMore
attribute [local go_sem] max2_int min2_int max_two min_two max_three min_three max_four min_four   -- for this text's walks alone
set_option linter.unusedVariables false
set_option linter.unusedSimpArgs false

/-! ### spec_TrmOk: function 62 -/
mutual
def spec_TrmOk.j0:Nat→List (S63)→Bool→Option (Bool)
 | 0,_,_=>none
 | k+1,x0,x11=>if x11=true then (some false) else (spec_TrmOk.l0 k x0 0)
def spec_TrmOk.l0:Nat→List (S63)→Int→Option (Bool)
 | 0,_,_=>none
 | k+1,x0,x3=>if x3<(x0.length:Int) then (if 0≤x3 then ((spec_l1Cell.f k ((rd_T63 x0 x3).f0) ((rd_T63 x0 x3).f1) ((rd_T63 x0 x3).f2)).bind fun t110=>(if t110=true then (spec_TrmOk.l0 k x0 (wrap64 (x3+1))) else (some false))) else (none)) else ((spec_l1End.f k x0 0).bind fun t108=>(some (t108 == (x0.length:Int))))
end
def spec_TrmOk.f (k:Nat) (l0:List (S63)):Option (Bool):=if (l0.length:Int)=0 then (spec_TrmOk.j0 k l0 true) else (spec_TrmOk.j0 k l0 (decide ((l0.length:Int) > 40)))
set_option maxHeartbeats 8000000 in
set_option maxRecDepth 100000 in
theorem spec_TrmOk.calls (k:Nat) (A0:Option Addr) (c0:Nat) (l0:List (S63)) (r:Bool) (w:World) (hr0:Kd.C k63 w A0 l0.length l0) (hc0:l0.length≤c0) (h:spec_TrmOk.f k l0=some r) :
  Calls Tryz.prog 62 #[.slice A0 l0.length c0] w fun e w'=>e = .returned (.bool r)∧Below w.heap.size w w':=by
 have hu63:=Tryz.underlying63
 have HR0:=Aside0.mk hr0
 have HC0:=Aside0.mk hc0
 clear hr0 hc0
 have HB:=Aside0.mk (Below.refl w.heap.size w)
 have H:(if (l0.length:Int)=0 then (spec_TrmOk.j0 k l0 true) else (spec_TrmOk.j0 k l0 (decide ((l0.length:Int) > 40))))=some r:=h
 clear h
 have HC2:=Aside0.mk H
 clear H
 go_enter Tryz.func62,Tryz.ntmps62
 go_upto_region 1 with (fail)
 go_cut [11] (fun v11 wc=>∃ (kq:Nat) (x11_1:Bool),v11 = .bool x11_1∧Aside0 (spec_TrmOk.j0 kq l0 x11_1=some r)∧Aside0 (kq≤k)∧Aside0 (Below w.heap.size w wc))
 case first=>
  have H:=HC2.out
  clear HC2
  by_cases c3:(l0.length:Int)=0
  ·rw [if_pos c3] at H
   have c3b0:((l0.length:Int) == 0)=true:=beq_iff_eq.mpr c3
   have c3b1:((l0.length:Int) != 0)=false:=bne_eq_false_iff_eq.mpr c3
   clear c3
   (first|rw [c3b0]|rw [c3b1]|(simp only [i64_w,i32_w];rw [c3b0])|skip)
   have H':=Aside0.mk H
   clear H
   go_wp2
   go_meet
   case rel=>exact ⟨_,(true),qz9,H',⟨qz107⟩,⟨qz3⟩⟩
  ·rw [if_neg c3] at H
   have c3b0:((l0.length:Int) == 0)=false:=beq_eq_false_iff_ne.mpr c3
   have c3b1:((l0.length:Int) != 0)=true:=bne_iff_ne.mpr c3
   have c3b2:¬ (l0=[]):=fun h_=>c3 (by rw [h_];rfl)
   (first|rw [c3b0]|rw [c3b1]|(simp only [i64_w,i32_w];rw [c3b0])|skip)
   have H':=Aside0.mk H
   clear H
   go_wp2
   go_meet
   case rel=>exact ⟨_,(decide ((l0.length:Int) > 40)),qz9,H',⟨qz107⟩,⟨qz3⟩⟩
 case rest=>
  clear HC2
  try clear p2
  try clear c3
  try clear c3b0
  try clear c3b1
  try clear c3b2
  obtain ⟨kq,x11_1,rfl,HA,HJ1,HB⟩:=hcut
  cases kq with
  | zero=>exact absurd HA.out (by simp [spec_TrmOk.j0])
  | succ kj1=>
   have H:=HA.out
   clear HA
   simp only [spec_TrmOk.j0] at H
   by_cases c4:x11_1=true
   ·subst c4
    have H1:(some false)=some r:=qz57
    clear H
    have H:=H1
    clear H1
    obtain rfl:=Option.some.inj H
    go_wp2
    go_ret
    exact ⟨qz4,qz3⟩
   ·replace c4:=Bool.eq_false_iff.mpr c4
    subst c4
    have H1:(spec_TrmOk.l0 kj1 l0 0)=some r:=qz23
    clear H
    have H:=H1
    clear H1
    have H':=Aside0.mk H
    clear H
    go_wp2
    go_loopg [3] kj1 (fun kq v3 w'=>∃ (x3_2:Int),v3 = .int .i64 x3_2∧Aside0 (spec_TrmOk.l0 kq l0 x3_2=some r)∧Aside0 (kq≤kj1)∧Aside0 (Below w.heap.size w w'))
    case atStart=>exact ⟨(0),qz9,H',⟨Nat.le_refl _⟩,⟨qz3⟩⟩
    case round=>
     clear H'
     try clear p2
     try clear c3
     try clear c3b0
     try clear c3b1
     try clear c3b2
     try clear c4
     try clear p2
     obtain ⟨x3_2,rfl,HA,HK2,HB⟩:=hrel
     cases gk with
     | zero=>exact absurd HA.out (by simp [spec_TrmOk.l0])
     | succ k2=>
      have H:=HA.out
      clear HA
      simp only [spec_TrmOk.l0] at H
      by_cases c5:x3_2<(l0.length:Int)
      ·rw [if_pos c5] at H
       have c5b0:decide (x3_2<(l0.length:Int))=true:=decide_eq_true c5
       clear c5
       by_cases c6:0≤x3_2
       ·rw [if_pos c6] at H
        have c6b0:decide (0≤x3_2)=true:=decide_eq_true c6
        clear c6
        replace H:=Option.bind_eq_some_iff.mp H
        obtain ⟨t110,A70,H⟩:=H
        try dsimp only at H
        have A7:=Aside0.mk A70
        clear A70
        by_cases c8:t110=true
        ·subst c8
         have H1:(spec_TrmOk.l0 k2 l0 (wrap64 (x3_2+1)))=some r:=qz57
         clear H
         have H:=H1
         clear H1
         have H':=Aside0.mk H
         clear H
         have p109:0≤(x3_2:Int):=of_decide_eq_true qz5
         have q109:x3_2<(l0.length:Int):=of_decide_eq_true qz5
         obtain ⟨ad109,e109,hx109_0,hx109_1,hx109_2⟩:=at_T63 HR0.out x3_2 p109 q109
         cases e109
         replace hx109_0:=(HB.out.cell (World.block_lt_of_cell? w _ hx109_0)).trans hx109_0
         replace hx109_1:=(HB.out.cell (World.block_lt_of_cell? w _ hx109_1)).trans hx109_1
         replace hx109_2:=(HB.out.cell (World.block_lt_of_cell? w _ hx109_2)).trans hx109_2
         replace p109:=eq_true p109
         replace q109:=eq_true q109
         go_wp2_with (first|((with_reducible refine gate_callee (f:=89) rfl ?_);refine goesL_ (some 22) rfl rfl Tryz.func89 (by kernel_rfl) rfl #[.agg #[.int .i64 ((rd_T63 l0 x3_2).f0),.int .i64 ((rd_T63 l0 x3_2).f1),.string ((rd_T63 l0 x3_2).f2)]] rfl qz2 ?_;(with_reducible refine (spec_l1Cell.calls k2 ((rd_T63 l0 x3_2).f0) ((rd_T63 l0 x3_2).f1) ((rd_T63 l0 x3_2).f2) true _ A7.out).mono ?_);rintro e w9 ⟨rfl,hb⟩;refine ⟨_,rfl,?_⟩;have n0_:=Aside0.mk (below_step qz1 hb);clear HB;have HB:=n0_;clear n0_;(try clear hb);(try clear hb2);(try clear hk);(try clear hi)))
         go_roundg k2
         case measure=>have:=HJ1.out;have:=HK2.out;omega
         case rel=>exact ⟨(wrap64 (x3_2+1)),qz9,H',⟨qz181⟩,⟨qz3⟩⟩
        ·replace c8:=Bool.eq_false_iff.mpr c8
         subst c8
         have H1:(some false)=some r:=qz23
         clear H
         have H:=H1
         clear H1
         obtain rfl:=Option.some.inj H
         have p109:0≤(x3_2:Int):=of_decide_eq_true qz5
         have q109:x3_2<(l0.length:Int):=of_decide_eq_true qz5
         obtain ⟨ad109,e109,hx109_0,hx109_1,hx109_2⟩:=at_T63 HR0.out x3_2 p109 q109
         cases e109
         replace hx109_0:=(HB.out.cell (World.block_lt_of_cell? w _ hx109_0)).trans hx109_0
         replace hx109_1:=(HB.out.cell (World.block_lt_of_cell? w _ hx109_1)).trans hx109_1
         replace hx109_2:=(HB.out.cell (World.block_lt_of_cell? w _ hx109_2)).trans hx109_2
         replace p109:=eq_true p109
         replace q109:=eq_true q109
         go_wp2_with (first|((with_reducible refine gate_callee (f:=89) rfl ?_);refine goesL_ (some 22) rfl rfl Tryz.func89 (by kernel_rfl) rfl #[.agg #[.int .i64 ((rd_T63 l0 x3_2).f0),.int .i64 ((rd_T63 l0 x3_2).f1),.string ((rd_T63 l0 x3_2).f2)]] rfl qz2 ?_;(with_reducible refine (spec_l1Cell.calls k2 ((rd_T63 l0 x3_2).f0) ((rd_T63 l0 x3_2).f1) ((rd_T63 l0 x3_2).f2) false _ A7.out).mono ?_);rintro e w10 ⟨rfl,hb⟩;refine ⟨_,rfl,?_⟩;have n0_:=Aside0.mk (below_step qz1 hb);clear HB;have HB:=n0_;clear n0_;(try clear hb);(try clear hb2);(try clear hk);(try clear hi)))
         go_ret
         exact ⟨qz4,qz3⟩
       ·rw [if_neg c6] at H
        exact absurd H (by simp)
      ·rw [if_neg c5] at H
       have c5b0:decide (x3_2<(l0.length:Int))=false:=decide_eq_false c5
       clear c5
       replace H:=Option.bind_eq_some_iff.mp H
       obtain ⟨t108,A110,H⟩:=H
       try dsimp only at H
       have A11:=Aside0.mk A110
       clear A110
       obtain rfl:=Option.some.inj H
       go_wp2_with (first|((with_reducible refine gate_callee (f:=90) rfl ?_);refine goesL_ (some 25) rfl rfl Tryz.func90 (by kernel_rfl) rfl #[.slice A0 l0.length c0,.int .i64 0] rfl qz2 ?_;(with_reducible refine (spec_l1End.calls k2 _ _ l0 0 t108 _ ?side1 ?side2 A11.out).mono ?_);(case side1=>exact qz129);(case side2=>exact HC0.out);rintro e w' ⟨rfl,⟨nd,rfl⟩⟩;refine ⟨_,rfl,?_⟩))
       go_ret
       exact ⟨qz4,qz3⟩

/-! ### spec_l3Term: function 40 -/
mutual
def spec_l3Term.j0:Nat→List (S63)→Bool→Option (Bool)
 | 0,_,_=>none
 | k+1,x0,x11=>if x11=true then (some false) else (spec_l3Term.l0 k x0 0)
def spec_l3Term.l0:Nat→List (S63)→Int→Option (Bool)
 | 0,_,_=>none
 | k+1,x0,x3=>if x3<(x0.length:Int) then (if 0≤x3 then (if ((rd_T63 x0 x3).f0)=1 then (if ((rd_T63 x0 x3).f1)≥8 then (some false) else (spec_l3Term.l0 k x0 (wrap64 (x3+1)))) else (spec_l3Term.l0 k x0 (wrap64 (x3+1)))) else (none)) else (some true)
end
def spec_l3Term.f (k:Nat) (l0:List (S63)):Option (Bool):=(spec_TrmOk.f k l0).bind fun t111=>(if t111=true then (spec_l3Term.j0 k l0 (decide ((l0.length:Int) > 12))) else (spec_l3Term.j0 k l0 true))
set_option maxHeartbeats 8000000 in
set_option maxRecDepth 100000 in
theorem spec_l3Term.calls (k:Nat) (A0:Option Addr) (c0:Nat) (l0:List (S63)) (r:Bool) (w:World) (hr0:Kd.C k63 w A0 l0.length l0) (hc0:l0.length≤c0) (h:spec_l3Term.f k l0=some r) :
  Calls Tryz.prog 40 #[.slice A0 l0.length c0] w fun e w'=>e = .returned (.bool r)∧Below w.heap.size w w':=by
 have HR0:=Aside0.mk hr0
 have HC0:=Aside0.mk hc0
 clear hr0 hc0
 have HB:=Aside0.mk (Below.refl w.heap.size w)
 have H:((spec_TrmOk.f k l0).bind fun t111=>(if t111=true then (spec_l3Term.j0 k l0 (decide ((l0.length:Int) > 12))) else (spec_l3Term.j0 k l0 true)))=some r:=h
 clear h
 have HC2:=Aside0.mk H
 clear H
 go_enter Tryz.func40,Tryz.ntmps40
 go_upto_region 1 with (fail)
 go_cut [11] (fun v11 wc=>∃ (kq:Nat) (x11_1:Bool),v11 = .bool x11_1∧Aside0 (spec_l3Term.j0 kq l0 x11_1=some r)∧Aside0 (kq≤k)∧Aside0 (Below w.heap.size w wc))
 case first=>
  have H:=HC2.out
  clear HC2
  replace H:=Option.bind_eq_some_iff.mp H
  obtain ⟨t111,A30,H⟩:=H
  try dsimp only at H
  have A3:=Aside0.mk A30
  clear A30
  by_cases c4:t111=true
  ·subst c4
   have H1:(spec_l3Term.j0 k l0 (decide ((l0.length:Int) > 12)))=some r:=qz57
   clear H
   have H:=H1
   clear H1
   have H':=Aside0.mk H
   clear H
   go_wp2_with (first|((with_reducible refine gate_callee (f:=62) rfl ?_);refine goesL_ (some 5) rfl rfl Tryz.func62 (by kernel_rfl) rfl #[.slice A0 l0.length c0] rfl qz2 ?_;(with_reducible refine (spec_TrmOk.calls k _ _ l0 true _ ?side1 ?side2 A3.out).mono ?_);(case side1=>exact qz129);(case side2=>exact HC0.out);rintro e w5 ⟨rfl,hb⟩;refine ⟨_,rfl,?_⟩;have n0_:=Aside0.mk (below_step qz1 hb);clear HB;have HB:=n0_;clear n0_;(try clear hb);(try clear hb2);(try clear hk);(try clear hi)))
   go_meet
   case rel=>exact ⟨_,(decide ((l0.length:Int) > 12)),qz9,H',⟨qz107⟩,⟨qz3⟩⟩
  ·replace c4:=Bool.eq_false_iff.mpr c4
   subst c4
   have H1:(spec_l3Term.j0 k l0 true)=some r:=qz23
   clear H
   have H:=H1
   clear H1
   have H':=Aside0.mk H
   clear H
   go_wp2_with (first|((with_reducible refine gate_callee (f:=62) rfl ?_);refine goesL_ (some 5) rfl rfl Tryz.func62 (by kernel_rfl) rfl #[.slice A0 l0.length c0] rfl qz2 ?_;(with_reducible refine (spec_TrmOk.calls k _ _ l0 false _ ?side1 ?side2 A3.out).mono ?_);(case side1=>exact qz129);(case side2=>exact HC0.out);rintro e w6 ⟨rfl,hb⟩;refine ⟨_,rfl,?_⟩;have n0_:=Aside0.mk (below_step qz1 hb);clear HB;have HB:=n0_;clear n0_;(try clear hb);(try clear hb2);(try clear hk);(try clear hi)))
   go_meet
   case rel=>exact ⟨_,(true),qz9,H',⟨qz107⟩,⟨qz3⟩⟩
 case rest=>
  clear HC2
  try clear p2
  try clear c4
  try clear c6
  obtain ⟨kq,x11_1,rfl,HA,HJ1,HB⟩:=hcut
  cases kq with
  | zero=>exact absurd HA.out (by simp [spec_l3Term.j0])
  | succ kj1=>
   have H:=HA.out
   clear HA
   simp only [spec_l3Term.j0] at H
   by_cases c7:x11_1=true
   ·subst c7
    have H1:(some false)=some r:=qz57
    clear H
    have H:=H1
    clear H1
    obtain rfl:=Option.some.inj H
    go_wp2
    go_ret
    exact ⟨qz4,qz3⟩
   ·replace c7:=Bool.eq_false_iff.mpr c7
    subst c7
    have H1:(spec_l3Term.l0 kj1 l0 0)=some r:=qz23
    clear H
    have H:=H1
    clear H1
    have H':=Aside0.mk H
    clear H
    go_wp2
    go_loopg [3] kj1 (fun kq v3 w'=>∃ (x3_2:Int),v3 = .int .i64 x3_2∧Aside0 (spec_l3Term.l0 kq l0 x3_2=some r)∧Aside0 (kq≤kj1)∧Aside0 (Below w.heap.size w w'))
    case atStart=>exact ⟨(0),qz9,H',⟨Nat.le_refl _⟩,⟨qz3⟩⟩
    case round=>
     clear H'
     try clear p2
     try clear c4
     try clear c6
     try clear c7
     try clear p2
     obtain ⟨x3_2,rfl,HA,HK2,HB⟩:=hrel
     cases gk with
     | zero=>exact absurd HA.out (by simp [spec_l3Term.l0])
     | succ k2=>
      have H:=HA.out
      clear HA
      simp only [spec_l3Term.l0] at H
      by_cases c8:x3_2<(l0.length:Int)
      ·rw [if_pos c8] at H
       have c8b0:decide (x3_2<(l0.length:Int))=true:=decide_eq_true c8
       clear c8
       by_cases c9:0≤x3_2
       ·rw [if_pos c9] at H
        have c9b0:decide (0≤x3_2)=true:=decide_eq_true c9
        clear c9
        by_cases c10:((rd_T63 l0 x3_2).f0)=1
        ·rw [if_pos c10] at H
         have c10b0:(((rd_T63 l0 x3_2).f0) == 1)=true:=beq_iff_eq.mpr c10
         have c10b1:(((rd_T63 l0 x3_2).f0) != 1)=false:=bne_eq_false_iff_eq.mpr c10
         clear c10
         by_cases c11:((rd_T63 l0 x3_2).f1)≥8
         ·rw [if_pos c11] at H
          have c11b0:decide (8≤((rd_T63 l0 x3_2).f1))=true:=decide_eq_true c11
          clear c11
          obtain rfl:=Option.some.inj H
          have p112:0≤(x3_2:Int):=of_decide_eq_true qz5
          have q112:x3_2<(l0.length:Int):=of_decide_eq_true qz5
          obtain ⟨ad112,e112,hx112_0,hx112_1,hx112_2⟩:=at_T63 HR0.out x3_2 p112 q112
          cases e112
          replace hx112_0:=(HB.out.cell (World.block_lt_of_cell? w _ hx112_0)).trans hx112_0
          replace hx112_1:=(HB.out.cell (World.block_lt_of_cell? w _ hx112_1)).trans hx112_1
          replace hx112_2:=(HB.out.cell (World.block_lt_of_cell? w _ hx112_2)).trans hx112_2
          replace p112:=eq_true p112
          replace q112:=eq_true q112
          have p113:0≤(x3_2:Int):=of_decide_eq_true qz5
          have q113:x3_2<(l0.length:Int):=of_decide_eq_true qz5
          obtain ⟨ad113,e113,hx113_0,hx113_1,hx113_2⟩:=at_T63 HR0.out x3_2 p113 q113
          obtain rfl:ad112=ad113:=(by injection e113)
          replace hx113_0:=(HB.out.cell (World.block_lt_of_cell? w _ hx113_0)).trans hx113_0
          replace hx113_1:=(HB.out.cell (World.block_lt_of_cell? w _ hx113_1)).trans hx113_1
          replace hx113_2:=(HB.out.cell (World.block_lt_of_cell? w _ hx113_2)).trans hx113_2
          replace p113:=eq_true p113
          replace q113:=eq_true q113
          go_wp2
          go_ret
          exact ⟨qz4,qz3⟩
         ·rw [if_neg c11] at H
          have c11b0:decide (8≤((rd_T63 l0 x3_2).f1))=false:=decide_eq_false c11
          clear c11
          have H':=Aside0.mk H
          clear H
          have p112:0≤(x3_2:Int):=of_decide_eq_true qz5
          have q112:x3_2<(l0.length:Int):=of_decide_eq_true qz5
          obtain ⟨ad112,e112,hx112_0,hx112_1,hx112_2⟩:=at_T63 HR0.out x3_2 p112 q112
          cases e112
          replace hx112_0:=(HB.out.cell (World.block_lt_of_cell? w _ hx112_0)).trans hx112_0
          replace hx112_1:=(HB.out.cell (World.block_lt_of_cell? w _ hx112_1)).trans hx112_1
          replace hx112_2:=(HB.out.cell (World.block_lt_of_cell? w _ hx112_2)).trans hx112_2
          replace p112:=eq_true p112
          replace q112:=eq_true q112
          have p113:0≤(x3_2:Int):=of_decide_eq_true qz5
          have q113:x3_2<(l0.length:Int):=of_decide_eq_true qz5
          obtain ⟨ad113,e113,hx113_0,hx113_1,hx113_2⟩:=at_T63 HR0.out x3_2 p113 q113
          obtain rfl:ad112=ad113:=(by injection e113)
          replace hx113_0:=(HB.out.cell (World.block_lt_of_cell? w _ hx113_0)).trans hx113_0
          replace hx113_1:=(HB.out.cell (World.block_lt_of_cell? w _ hx113_1)).trans hx113_1
          replace hx113_2:=(HB.out.cell (World.block_lt_of_cell? w _ hx113_2)).trans hx113_2
          replace p113:=eq_true p113
          replace q113:=eq_true q113
          go_wp2
          go_roundg k2
          case measure=>have:=HJ1.out;have:=HK2.out;omega
          case rel=>exact ⟨(wrap64 (x3_2+1)),qz9,H',⟨qz181⟩,⟨qz3⟩⟩
        ·rw [if_neg c10] at H
         have c10b0:(((rd_T63 l0 x3_2).f0) == 1)=false:=beq_eq_false_iff_ne.mpr c10
         have c10b1:(((rd_T63 l0 x3_2).f0) != 1)=true:=bne_iff_ne.mpr c10
         have H':=Aside0.mk H
         clear H
         have p112:0≤(x3_2:Int):=of_decide_eq_true qz5
         have q112:x3_2<(l0.length:Int):=of_decide_eq_true qz5
         obtain ⟨ad112,e112,hx112_0,hx112_1,hx112_2⟩:=at_T63 HR0.out x3_2 p112 q112
         cases e112
         replace hx112_0:=(HB.out.cell (World.block_lt_of_cell? w _ hx112_0)).trans hx112_0
         replace hx112_1:=(HB.out.cell (World.block_lt_of_cell? w _ hx112_1)).trans hx112_1
         replace hx112_2:=(HB.out.cell (World.block_lt_of_cell? w _ hx112_2)).trans hx112_2
         replace p112:=eq_true p112
         replace q112:=eq_true q112
         go_wp2
         go_roundg k2
         case measure=>have:=HJ1.out;have:=HK2.out;omega
         case rel=>exact ⟨(wrap64 (x3_2+1)),qz9,H',⟨qz181⟩,⟨qz3⟩⟩
       ·rw [if_neg c9] at H
        exact absurd H (by simp)
      ·rw [if_neg c8] at H
       have c8b0:decide (x3_2<(l0.length:Int))=false:=decide_eq_false c8
       clear c8
       obtain rfl:=Option.some.inj H
       go_wp2
       go_ret
       exact ⟨qz4,qz3⟩

/-! ### spec_l3Call: function 41 -/
def spec_l3Call.f (l0:List (S63)):Option (Bool):=if (l0.length:Int) > 0 then (if 0<(l0.length:Int) then (some (((rd_T63 l0 0).f0) == 3)) else (none)) else (some false)
set_option maxHeartbeats 8000000 in
set_option maxRecDepth 100000 in
theorem spec_l3Call.calls (A0:Option Addr) (c0:Nat) (l0:List (S63)) (r:Bool) (w:World) (hr0:Kd.C k63 w A0 l0.length l0) (hc0:l0.length≤c0) (h:spec_l3Call.f l0=some r) :
  Calls Tryz.prog 41 #[.slice A0 l0.length c0] w fun e w'=>e = .returned (.bool r)∧Drawn0 w w':=by
 have HR0:=Aside0.mk hr0
 have HC0:=Aside0.mk hc0
 clear hr0 hc0
 have H:(if (l0.length:Int) > 0 then (if 0<(l0.length:Int) then (some (((rd_T63 l0 0).f0) == 3)) else (none)) else (some false))=some r:=h
 clear h
 by_cases c2:(l0.length:Int) > 0
 ·rw [if_pos c2] at H
  have c2b0:decide (0<(l0.length:Int))=true:=decide_eq_true c2
  have c2b1:decide (0<l0.length)=true:=decide_eq_true (by omega)
  clear c2
  by_cases c3:0<(l0.length:Int)
  ·rw [if_pos c3] at H
   have c3b0:decide (0<(l0.length:Int))=true:=decide_eq_true c3
   have c3b1:decide (0<l0.length)=true:=decide_eq_true (by omega)
   clear c3
   obtain rfl:=Option.some.inj H
   have p114:0≤(0:Int):=(by omega)
   have q114:0<(l0.length:Int):=of_decide_eq_true qz5
   obtain ⟨ad114,e114,hx114_0,hx114_1,hx114_2⟩:=at_T63 HR0.out 0 p114 q114
   cases e114
   have qi114:(0<l0.length)=True:=eq_true (by omega)
   (try rw [show ((0:Int)).toNat=0 from rfl] at hx114_0)
   (try rw [show 0 * 3=0 from rfl] at hx114_0)
   (try rw [Addr.add_zero'] at hx114_0)
   (try rw [show ((0:Int)).toNat=0 from rfl] at hx114_1)
   (try rw [show 0 * 3=0 from rfl] at hx114_1)
   (try rw [Addr.add_zero'] at hx114_1)
   (try rw [show ((0:Int)).toNat=0 from rfl] at hx114_2)
   (try rw [show 0 * 3=0 from rfl] at hx114_2)
   (try rw [Addr.add_zero'] at hx114_2)
   replace p114:=eq_true p114
   replace q114:=eq_true q114
   go_enter Tryz.func41,Tryz.ntmps41
   go_wp2
   go_ret
   exact ⟨qz9,qz33⟩
  ·rw [if_neg c3] at H
   exact absurd H (by simp)
 ·rw [if_neg c2] at H
  have c2b0:decide (0<(l0.length:Int))=false:=decide_eq_false c2
  have c2b1:decide (0<l0.length)=false:=decide_eq_false (by omega)
  clear c2
  obtain rfl:=Option.some.inj H
  go_enter Tryz.func41,Tryz.ntmps41
  go_wp2
  go_ret
  exact ⟨qz9,qz33⟩

end Go.Proofs.YtlhniagacegbeaaGreatDoor.P
