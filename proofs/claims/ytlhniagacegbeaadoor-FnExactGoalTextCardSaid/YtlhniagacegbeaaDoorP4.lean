/- Contracts of functions of the program: each as a Lean function, and that its call does what that says; printed by cprint.py (this session) over print.py of the kit. Conditions: the hypotheses of each theorem. -/
import Derived.Test.YtlhniagacegbeaaDoorVZ
import Derived.Test.YtlhniagacegbeaaDoorP0
import Derived.Test.YtlhniagacegbeaaDoorP2
import Derived.Test.YtlhniagacegbeaaDoorP3
namespace Go.Proofs.YtlhniagacegbeaaDoor.P
open Go.RowKit Go.Proofs.YtlhniagacegbeaaDoorW.PrintWords Go.Proofs.YtlhniagacegbeaaDoorW.PrintLast Go.Proofs.YtlhniagacegbeaaDoorW.PrintMore
attribute [local go_sem] max2_int min2_int max_two min_two max_three min_three max_four min_four   -- for this text's walks alone
set_option linter.unusedVariables false
set_option linter.unusedSimpArgs false

/-! ### spec_TrmText: function 19 -/
mutual
def spec_TrmText.l0:Nat→List (S44)→ByteArray→List Int→Int→Option (ByteArray)
 | 0,_,_,_,_=>none
 | k+1,x0,x3,x4,x5=>if x5<(x0.length:Int) then (if 0≤x5 then ((spec_l1Word.f k ((rd_T44 x0 x5).f0) ((rd_T44 x0 x5).f1) ((rd_T44 x0 x5).f2)).bind fun t145=>(if x3.size+t145.size≤9223372036854775807 then (if ((rd_T44 x0 x5).f0)=3 then (spec_TrmText.j1 k x0 (x3++t145) x4 x5 (decide (((rd_T44 x0 x5).f1) > 0))) else (spec_TrmText.j1 k x0 (x3++t145) x4 x5 false)) else (none))) else (none)) else (some x3)
def spec_TrmText.j1:Nat→List (S44)→ByteArray→List Int→Int→Bool→Option (ByteArray)
 | 0,_,_,_,_,_=>none
 | k+1,x0,x3,x4,x5,x36=>if x36=true then (if x3.size+1≤9223372036854775807 then (if 0≤x5 then (if x5<(x0.length:Int) then (if x4.length<17592186044416 then (spec_TrmText.l0 k x0 (x3++(⟨#[40]⟩:ByteArray)) (x4++[(rd_T44 x0 x5).f1]) (wrap64 (x5+1))) else (none)) else (none)) else (none)) else (none)) else (spec_TrmText.l1 k x0 x3 x4 x5)
def spec_TrmText.l1:Nat→List (S44)→ByteArray→List Int→Int→Option (ByteArray)
 | 0,_,_,_,_=>none
 | k+1,x0,x3,x4,x5=>if (x4.length:Int) > 0 then (if 0≤(wrap64 ((x4.length:Int) - 1)) then (if (wrap64 ((x4.length:Int) - 1))<(x4.length:Int) then (if (rd x4 (wrap64 ((x4.length:Int) - 1)))=1 then (if x3.size+1≤9223372036854775807 then (if (wrap64 ((x4.length:Int) - 1))≤(x4.length:Int) then (spec_TrmText.l1 k x0 (x3++(⟨#[41]⟩:ByteArray)) (x4.take ((wrap64 ((x4.length:Int) - 1)):Int).toNat) x5) else (none)) else (none)) else (if x3.size+1≤9223372036854775807 then (spec_TrmText.l0 k x0 (x3++(⟨#[44]⟩:ByteArray)) (x4.set ((wrap64 ((x4.length:Int) - 1)):Int).toNat (wrap64 ((rd x4 (wrap64 ((x4.length:Int) - 1))) - 1))) (wrap64 (x5+1))) else (none))) else (none)) else (none)) else (spec_TrmText.l0 k x0 x3 x4 (wrap64 (x5+1)))
end
def spec_TrmText.f (k:Nat) (l0:List (S44)):Option (ByteArray):=(spec_TrmOk.f k l0).bind fun t140=>(if t140=true then (spec_TrmText.l0 k l0 (⟨#[]⟩:ByteArray) (([]:List Int)) 0) else (some (⟨#[]⟩:ByteArray)))
set_option maxHeartbeats 8000000 in
set_option maxRecDepth 100000 in
theorem spec_TrmText.calls (k:Nat) (A0:Option Addr) (c0:Nat) (l0:List (S44)) (r:ByteArray) (w:World) (hr0:Kd.C k44 w A0 l0.length l0) (hc0:l0.length≤c0) (h:spec_TrmText.f k l0=some r) :
  Calls Tryd.prog 19 #[.slice A0 l0.length c0] w fun e w'=>e = .returned (.string r)∧Below w.heap.size w w':=by
 have hu44:=Tryd.underlying44
 have HR0:=Aside0.mk hr0
 have HC0:=Aside0.mk hc0
 clear hr0 hc0
 have HB:=Aside0.mk (Below.refl w.heap.size w)
 have H:((spec_TrmOk.f k l0).bind fun t140=>(if t140=true then (spec_TrmText.l0 k l0 (⟨#[]⟩:ByteArray) (([]:List Int)) 0) else (some (⟨#[]⟩:ByteArray))))=some r:=h
 clear h
 replace H:=Option.bind_eq_some_iff.mp H
 obtain ⟨t140,A20,H⟩:=H
 try dsimp only at H
 have A2:=Aside0.mk A20
 clear A20
 by_cases c3:t140=true
 ·subst c3
  have H1:(spec_TrmText.l0 k l0 (⟨#[]⟩:ByteArray) (([]:List Int)) 0)=some r:=qz42
  clear H
  have H:=H1
  clear H1
  obtain ⟨y141,hy141⟩:∃ y_:List Int,y_=(([]:List Int)):=⟨_,rfl⟩
  replace H:(spec_TrmText.l0 k l0 (⟨#[]⟩:ByteArray) y141 0)=some r:=by first|(rw [hy141];exact H)|exact H
  have Ny141:=Aside0.mk hy141
  clear hy141
  have H':=Aside0.mk H
  clear H
  go_enter Tryd.func19,Tryd.ntmps19
  go_wp2_with (first|((with_reducible refine gate_callee (f:=14) rfl ?_);refine goesL_ (some 7) rfl rfl Tryd.func14 (by kernel_rfl) rfl #[.slice A0 l0.length c0] rfl qz2 ?_;(with_reducible refine (spec_TrmOk.calls k _ _ l0 true _ ?side1 ?side2 A2.out).mono ?_);(case side1=>exact qz43);(case side2=>exact HC0.out);rintro e w4 ⟨rfl,hb⟩;refine ⟨_,rfl,?_⟩;have n0_:=Aside0.mk (below_step qz1 hb);clear HB;have HB:=n0_;clear n0_;(try clear hb);(try clear hb2);(try clear hk);(try clear hi))|((with_reducible refine gate_dst (N:=9) rfl ?_);(try (refine gate_guard (by rfl) ?_;dsimp only));refine Kd.R_lit (Kd.int .i64) _ 3 ?hg (N:=9) ?hd (xs:=([]:List Int)) (inner:=[]) (ok:=fun _=>True) (okp:=fun _=>True) ?hr ?hp (fun _ hk=>hk) trivial (Below.refl _ _) (Nat.le_refl _) (by simp) ?_;(case hd=>rfl);(case hg=>rfl);(case hr=>first|(go_simp;done)|(go_simp;rfl));(case hp=>exact (Reps.none _ _));intro v142 w5 ho6 hb hg_ hnew_;clear hg_ hnew_;(first|rw [← Ny141.out] at ho6|(simp only [Int.reduceToNat] at ho6;rw [← Ny141.out] at ho6));have n0_:=Aside0.mk (Kd.R_lower ho6 (below_size qz1));have n1_:=Aside0.mk (below_step qz1 hb);clear HB;have HO143:=n0_;have HB:=n1_;clear n0_ n1_ hb ho6))
  go_loopg [3,4,5] k (fun kq v3 v4 v5 w'=>∃ (x3_1:ByteArray) (x4_1:List Int) (x5_1:Int),v3 = .string x3_1∧v5 = .int .i64 x5_1∧Aside0 (spec_TrmText.l0 kq l0 x3_1 x4_1 x5_1=some r)∧Aside0 (kq≤k)∧Aside0 (Kd.R (Kd.int .i64) 3 w' w.heap.size (fun _=>True) v4 x4_1)∧Aside0 (Below w.heap.size w w'))
  case atStart=>exact ⟨((⟨#[]⟩:ByteArray)),(y141),(0),qz16,qz16,H',⟨Nat.le_refl _⟩,⟨by (with_reducible repeat (first|apply Kd.R_alloc|apply Kd.R_drewN|apply Kd.R_drew));exact HO143.out⟩,⟨qz6⟩⟩
  case round=>
   clear H'
   try clear c1
   try clear p2
   try clear c3
   obtain ⟨x3_1,x4_1,x5_1,rfl,rfl,HA,HK1,HO_4,HB⟩:=hrel
   cases gk with
   | zero=>exact absurd HA.out (by simp [spec_TrmText.l0])
   | succ k1=>
    have H:=HA.out
    clear HA
    simp only [spec_TrmText.l0] at H
    by_cases c7:x5_1<(l0.length:Int)
    ·rw [if_pos c7] at H
     have c7b0:decide (x5_1<(l0.length:Int))=true:=decide_eq_true c7
     clear c7
     by_cases c8:0≤x5_1
     ·rw [if_pos c8] at H
      have c8b0:decide (0≤x5_1)=true:=decide_eq_true c8
      clear c8
      replace H:=Option.bind_eq_some_iff.mp H
      obtain ⟨t145,A90,H⟩:=H
      try dsimp only at H
      have A9:=Aside0.mk A90
      clear A90
      by_cases c10:x3_1.size+t145.size≤9223372036854775807
      ·rw [if_pos c10] at H
       have c10b0:=eq_true c10
       have c10b1:decide (x3_1.size+t145.size≤9223372036854775807)=true:=decide_eq_true c10
       try have c10b2:(9223372036854775807<x3_1.size+t145.size)=False:=eq_false (Nat.not_lt.2 c10)
       have HC11:=Aside0.mk H
       clear H
       have p144:0≤(x5_1:Int):=of_decide_eq_true qz12
       have q144:x5_1<(l0.length:Int):=of_decide_eq_true qz12
       obtain ⟨ad144,e144,hx144_0,hx144_1,hx144_2⟩:=at_T44 HR0.out x5_1 p144 q144
       cases e144
       replace hx144_0:=(HB.out.cell (World.block_lt_of_cell? w _ hx144_0)).trans hx144_0
       replace hx144_1:=(HB.out.cell (World.block_lt_of_cell? w _ hx144_1)).trans hx144_1
       replace hx144_2:=(HB.out.cell (World.block_lt_of_cell? w _ hx144_2)).trans hx144_2
       replace p144:=eq_true p144
       replace q144:=eq_true q144
       go_upto_region 9 with (first|((with_reducible refine gate_callee (f:=42) rfl ?_);refine goesL_ (some 21) rfl rfl Tryd.func42 (by kernel_rfl) rfl #[.agg #[.int .i64 ((rd_T44 l0 x5_1).f0),.int .i64 ((rd_T44 l0 x5_1).f1),.string ((rd_T44 l0 x5_1).f2)]] rfl qz2 ?_;(with_reducible refine (spec_l1Word.calls k1 ((rd_T44 l0 x5_1).f0) ((rd_T44 l0 x5_1).f1) ((rd_T44 l0 x5_1).f2) t145 _ A9.out).mono ?_);rintro e w12 ⟨rfl,hb⟩;refine ⟨_,rfl,?_⟩;have n0_:=Aside0.mk (Kd.R_below qz44 hb);have n1_:=Aside0.mk (below_step qz1 hb);clear HO_4 HB;have HO_4:=n0_;have HB:=n1_;clear n0_ n1_;(try clear hb);(try clear hb2);(try clear hk);(try clear hi)))
       (try simp only [Act.put,List.setIfInBounds_toArray,List.set_cons_zero,List.set_cons_succ])
       go_cut [36] (fun v36 wc=>∃ (kq:Nat) (x36_10:Bool),v36 = .bool x36_10∧Aside0 (spec_TrmText.j1 kq l0 (x3_1++t145) x4_1 x5_1 x36_10=some r)∧Aside0 (kq≤k1)∧Aside0 (Kd.R (Kd.int .i64) 3 wc w.heap.size (fun _=>True) u4 x4_1)∧Aside0 (Below w.heap.size w wc))
       case first=>
        have H:=HC11.out
        clear HC11
        by_cases c13:((rd_T44 l0 x5_1).f0)=3
        ·rw [if_pos c13] at H
         have c13b0:(((rd_T44 l0 x5_1).f0) == 3)=true:=beq_iff_eq.mpr c13
         have c13b1:(((rd_T44 l0 x5_1).f0) != 3)=false:=bne_eq_false_iff_eq.mpr c13
         clear c13
         (first|rw [c13b0]|rw [c13b1]|(simp only [i64_w,i32_w];rw [c13b0])|skip)
         have H':=Aside0.mk H
         clear H
         have p146:0≤(x5_1:Int):=of_decide_eq_true qz12
         have q146:x5_1<(l0.length:Int):=of_decide_eq_true qz12
         obtain ⟨ad146,e146,hx146_0,hx146_1,hx146_2⟩:=at_T44 HR0.out x5_1 p146 q146
         obtain rfl:ad144=ad146:=(by injection e146)
         replace hx146_0:=(HB.out.cell (World.block_lt_of_cell? w _ hx146_0)).trans hx146_0
         replace hx146_1:=(HB.out.cell (World.block_lt_of_cell? w _ hx146_1)).trans hx146_1
         replace hx146_2:=(HB.out.cell (World.block_lt_of_cell? w _ hx146_2)).trans hx146_2
         replace p146:=eq_true p146
         replace q146:=eq_true q146
         have p147:0≤(x5_1:Int):=of_decide_eq_true qz12
         have q147:x5_1<(l0.length:Int):=of_decide_eq_true qz12
         obtain ⟨ad147,e147,hx147_0,hx147_1,hx147_2⟩:=at_T44 HR0.out x5_1 p147 q147
         obtain rfl:ad144=ad147:=(by injection e147)
         replace hx147_0:=(HB.out.cell (World.block_lt_of_cell? w _ hx147_0)).trans hx147_0
         replace hx147_1:=(HB.out.cell (World.block_lt_of_cell? w _ hx147_1)).trans hx147_1
         replace hx147_2:=(HB.out.cell (World.block_lt_of_cell? w _ hx147_2)).trans hx147_2
         replace p147:=eq_true p147
         replace q147:=eq_true q147
         go_wp2
         go_meet
         case rel=>exact ⟨_,(decide (((rd_T44 l0 x5_1).f1) > 0)),qz16,H',⟨qz90⟩,⟨qz44⟩,⟨qz6⟩⟩
        ·rw [if_neg c13] at H
         have c13b0:(((rd_T44 l0 x5_1).f0) == 3)=false:=beq_eq_false_iff_ne.mpr c13
         have c13b1:(((rd_T44 l0 x5_1).f0) != 3)=true:=bne_iff_ne.mpr c13
         (first|rw [c13b0]|rw [c13b1]|(simp only [i64_w,i32_w];rw [c13b0])|skip)
         have H':=Aside0.mk H
         clear H
         have p146:0≤(x5_1:Int):=of_decide_eq_true qz12
         have q146:x5_1<(l0.length:Int):=of_decide_eq_true qz12
         obtain ⟨ad146,e146,hx146_0,hx146_1,hx146_2⟩:=at_T44 HR0.out x5_1 p146 q146
         obtain rfl:ad144=ad146:=(by injection e146)
         replace hx146_0:=(HB.out.cell (World.block_lt_of_cell? w _ hx146_0)).trans hx146_0
         replace hx146_1:=(HB.out.cell (World.block_lt_of_cell? w _ hx146_1)).trans hx146_1
         replace hx146_2:=(HB.out.cell (World.block_lt_of_cell? w _ hx146_2)).trans hx146_2
         replace p146:=eq_true p146
         replace q146:=eq_true q146
         go_wp2
         go_meet
         case rel=>exact ⟨_,(false),qz16,H',⟨qz90⟩,⟨qz44⟩,⟨qz6⟩⟩
       case rest=>
        clear HC11
        try clear c1
        try clear p1
        try clear q1
        try clear hx1
        try clear p2
        try clear c3
        try clear c4
        try clear c7
        try clear c7b0
        try clear c8
        try clear c8b0
        try clear c10
        try clear c10b0
        try clear c10b1
        try clear c10b2
        try clear c13
        try clear c13b0
        try clear c13b1
        try clear hx144_0
        try clear hx144_1
        try clear hx144_2
        try clear hx146_0
        try clear hx146_1
        try clear hx146_2
        try clear hx147_0
        try clear hx147_1
        try clear hx147_2
        try clear p144
        try clear p146
        try clear p147
        try clear p2
        try clear q144
        try clear q146
        try clear q147
        obtain ⟨kq,x36_10,rfl,HA,HJ10,HO_4,HB⟩:=hcut
        cases kq with
        | zero=>exact absurd HA.out (by simp [spec_TrmText.j1])
        | succ kj10=>
         have H:=HA.out
         clear HA
         simp only [spec_TrmText.j1] at H
         by_cases c14:x36_10=true
         ·subst c14
          have H1:(if (x3_1++t145).size+1≤9223372036854775807 then (if 0≤x5_1 then (if x5_1<(l0.length:Int) then (if x4_1.length<17592186044416 then (spec_TrmText.l0 kj10 l0 ((x3_1++t145)++(⟨#[40]⟩:ByteArray)) (x4_1++[(rd_T44 l0 x5_1).f1]) (wrap64 (x5_1+1))) else (none)) else (none)) else (none)) else (none))=some r:=qz42
          clear H
          have H:=H1
          clear H1
          by_cases c15:(x3_1++t145).size+1≤9223372036854775807
          ·rw [if_pos c15] at H
           have c15b0:=eq_true c15
           have c15b1:decide ((x3_1++t145).size+1≤9223372036854775807)=true:=decide_eq_true c15
           try (have c15b1s:=c15b1;simp only [ByteArray.size_append] at c15b1s)
           try have c15b2:(9223372036854775807<(x3_1++t145).size+1)=False:=eq_false (Nat.not_lt.2 c15)
           try (have c15b2s:=c15b2;simp only [ByteArray.size_append] at c15b2s)
           by_cases c16:0≤x5_1
           ·rw [if_pos c16] at H
            have c16b0:decide (0≤x5_1)=true:=decide_eq_true c16
            clear c16
            by_cases c17:x5_1<(l0.length:Int)
            ·rw [if_pos c17] at H
             have c17b0:decide (x5_1<(l0.length:Int))=true:=decide_eq_true c17
             clear c17
             by_cases c18:x4_1.length<17592186044416
             ·rw [if_pos c18] at H
              have LMc18:=Aside0.mk c18
              clear c18
              obtain ⟨y149,hy149⟩:∃ y_:List Int,y_=(x4_1++[(rd_T44 l0 x5_1).f1]):=⟨_,rfl⟩
              replace H:(spec_TrmText.l0 kj10 l0 ((x3_1++t145)++(⟨#[40]⟩:ByteArray)) y149 (wrap64 (x5_1+1)))=some r:=by first|(rw [hy149];exact H)|exact H
              have Ny149:=Aside0.mk hy149
              clear hy149
              have H':=Aside0.mk H
              clear H
              have p148:0≤(x5_1:Int):=of_decide_eq_true qz12
              have q148:x5_1<(l0.length:Int):=of_decide_eq_true qz12
              obtain ⟨ad148,e148,hx148_0,hx148_1,hx148_2⟩:=at_T44 HR0.out x5_1 p148 q148
              obtain rfl:ad144=ad148:=(by injection e148)
              replace hx148_0:=(HB.out.cell (World.block_lt_of_cell? w _ hx148_0)).trans hx148_0
              replace hx148_1:=(HB.out.cell (World.block_lt_of_cell? w _ hx148_1)).trans hx148_1
              replace hx148_2:=(HB.out.cell (World.block_lt_of_cell? w _ hx148_2)).trans hx148_2
              replace p148:=eq_true p148
              replace q148:=eq_true q148
              go_wp2_with (first|((with_reducible refine gate_builtin (b:=.append) (xs:=#[.tmp 39,.tmp 45]) rfl ?_);(try (refine gate_guard (by rfl) ?_;dsimp only));at_builtin;refine Kd.R_append (Kd.int .i64) (w0:=w) w.heap.size rfl (.tmp 39) (.tmp 45) 75 3 (.int .i64 0) 8 rfl Tryd.underlying75 info3 rfl (by decide) (by omega) u4 x4_1 ((rd_T44 l0 x5_1).f1) [.int .i64 ((rd_T44 l0 x5_1).f1)] (fun _=>True) (fun _=>False) rfl rfl ?aP (fun _ hk=>hk.elim) ?aF ?aO ?aB ?aS ?aL ?_;(case aP=>exact rfl);(case aB=>exact qz1);(case aF=>exact (fun _ _=>trivial));(case aO=>exact qz44);(case aS=>exact (below_size qz1));(case aL=>have:=LMc18.out;omega);intro v150 w19 ho hb hg hat;rw [← Ny149.out] at ho;have n0_:=Aside0.mk (hb);have n1_:=Aside0.mk (ho);clear HB HO_4;have HB:=n0_;have HO151:=n1_;clear n0_ n1_ ho hb hg hat))
              go_roundg kj10
              case measure=>have:=HK1.out;have:=HJ10.out;omega
              case rel=>exact ⟨((x3_1++t145)++(⟨#[40]⟩:ByteArray)),(y149),(wrap64 (x5_1+1)),qz16,qz16,H',⟨by have:=HK1.out;have:=HJ10.out;omega⟩,⟨by (with_reducible repeat (first|apply Kd.R_alloc|apply Kd.R_drewN|apply Kd.R_drew));exact HO151.out⟩,⟨qz6⟩⟩
             ·rw [if_neg c18] at H
              exact absurd H (by simp)
            ·rw [if_neg c17] at H
             exact absurd H (by simp)
           ·rw [if_neg c16] at H
            exact absurd H (by simp)
          ·rw [if_neg c15] at H
           exact absurd H (by simp)
         ·replace c14:=Bool.eq_false_iff.mpr c14
          subst c14
          have H1:(spec_TrmText.l1 kj10 l0 (x3_1++t145) x4_1 x5_1)=some r:=qz29
          clear H
          have H:=H1
          clear H1
          have H':=Aside0.mk H
          clear H
          go_wp2
          go_loopg [3,4] kj10 (fun kq v3 v4 w'=>∃ (x3_3:ByteArray) (x4_3:List Int),v3 = .string x3_3∧Aside0 (spec_TrmText.l1 kq l0 x3_3 x4_3 x5_1=some r)∧Aside0 (kq≤kj10)∧Aside0 (Kd.R (Kd.int .i64) 3 w' w.heap.size (fun _=>True) v4 x4_3)∧Aside0 (Below w.heap.size w w'))
          case atStart=>exact ⟨((x3_1++t145)),(x4_1),qz16,H',⟨Nat.le_refl _⟩,⟨qz44⟩,⟨qz6⟩⟩
          case round=>
           clear H'
           try clear c1
           try clear p1
           try clear q1
           try clear hx1
           try clear p2
           try clear c3
           try clear c4
           try clear p6
           try clear c7
           try clear c7b0
           try clear c8
           try clear c8b0
           try clear c10
           try clear c10b0
           try clear c10b1
           try clear c10b2
           try clear c13
           try clear c13b0
           try clear c13b1
           try clear c14
           try clear p14
           try clear q14
           try clear hx14
           try clear c15
           try clear c15b0
           try clear c15b1
           try clear c15b2
           try clear c16
           try clear c16b0
           try clear c17
           try clear c17b0
           try clear c18
           try clear c19
           try clear hx144_0
           try clear hx144_1
           try clear hx144_2
           try clear hx146_0
           try clear hx146_1
           try clear hx146_2
           try clear hx147_0
           try clear hx147_1
           try clear hx147_2
           try clear hx148_0
           try clear hx148_1
           try clear hx148_2
           try clear p1
           try clear p144
           try clear p146
           try clear p147
           try clear p148
           try clear p2
           try clear q1
           try clear q144
           try clear q146
           try clear q147
           try clear q148
           obtain ⟨x3_3,x4_3,rfl,HA,HK3,HO_4,HB⟩:=hrel
           cases gk with
           | zero=>exact absurd HA.out (by simp [spec_TrmText.l1])
           | succ k3=>
            have H:=HA.out
            clear HA
            simp only [spec_TrmText.l1] at H
            by_cases c20:(x4_3.length:Int) > 0
            ·rw [if_pos c20] at H
             have c20b0:decide (0<(x4_3.length:Int))=true:=decide_eq_true c20
             have c20b1:decide (0<x4_3.length)=true:=decide_eq_true (by omega)
             clear c20
             obtain ⟨ji21,hji21⟩:∃ j_:Int,(wrap64 ((x4_3.length:Int) - 1))=j_:=⟨_,rfl⟩
             replace H:(if 0≤(ji21) then (if (ji21)<(x4_3.length:Int) then (if (rd x4_3 (ji21))=1 then (if x3_3.size+1≤9223372036854775807 then (if (ji21)≤(x4_3.length:Int) then (spec_TrmText.l1 k3 l0 (x3_3++(⟨#[41]⟩:ByteArray)) (x4_3.take ((ji21):Int).toNat) x5_1) else (none)) else (none)) else (if x3_3.size+1≤9223372036854775807 then (spec_TrmText.l0 k3 l0 (x3_3++(⟨#[44]⟩:ByteArray)) (x4_3.set ((ji21):Int).toNat (wrap64 ((rd x4_3 (ji21)) - 1))) (wrap64 (x5_1+1))) else (none))) else (none)) else (none))=some r:=by first|(rw [hji21] at H;exact H)|(simp only [hji21] at H ⊢;exact H)
             have hji21w:(IntKind.i64.wrap ((x4_3.length:Int) - 1))=ji21:=(i64_w _).trans hji21
             by_cases c22:0≤(ji21)
             ·rw [if_pos c22] at H
              have c22b0:decide (0≤(ji21))=true:=decide_eq_true c22
              clear c22
              by_cases c23:(ji21)<(x4_3.length:Int)
              ·rw [if_pos c23] at H
               have c23b0:decide ((ji21)<(x4_3.length:Int))=true:=decide_eq_true c23
               clear c23
               by_cases c24:(rd x4_3 (ji21))=1
               ·rw [if_pos c24] at H
                have c24b0:((rd x4_3 (ji21)) == 1)=true:=beq_iff_eq.mpr c24
                have c24b1:((rd x4_3 (ji21)) != 1)=false:=bne_eq_false_iff_eq.mpr c24
                clear c24
                by_cases c25:x3_3.size+1≤9223372036854775807
                ·rw [if_pos c25] at H
                 have c25b0:=eq_true c25
                 have c25b1:decide (x3_3.size+1≤9223372036854775807)=true:=decide_eq_true c25
                 try have c25b2:(9223372036854775807<x3_3.size+1)=False:=eq_false (Nat.not_lt.2 c25)
                 by_cases c26:(ji21)≤(x4_3.length:Int)
                 ·rw [if_pos c26] at H
                  have c26b0:=eq_true c26
                  have c26b1:decide ((ji21)≤(x4_3.length:Int))=true:=decide_eq_true c26
                  clear c26
                  obtain ⟨y153,hy153⟩:∃ y_:List Int,y_=(x4_3.take ((ji21):Int).toNat):=⟨_,rfl⟩
                  replace H:(spec_TrmText.l1 k3 l0 (x3_3++(⟨#[41]⟩:ByteArray)) y153 x5_1)=some r:=by first|(rw [hy153];exact H)|exact H
                  have Ny153:=Aside0.mk hy153
                  clear hy153
                  have H':=Aside0.mk H
                  clear H
                  obtain ⟨Ao27,co27,eo27⟩:=Kd.R_slice HO_4.out
                  subst eo27
                  have p152:0≤((ji21):Int):=of_decide_eq_true qz12
                  have q152:(ji21)<(x4_3.length:Int):=of_decide_eq_true qz12
                  obtain ⟨ad152,e152,hx152_0⟩:=Kd.at_int (Kd.R_reads' HO_4.out).2.2 (ji21) p152 q152
                  cases e152
                  replace p152:=eq_true p152
                  replace q152:=eq_true q152
                  have q28:((ji21):Int)≤((x4_3.length:Int):Int):=of_decide_eq_true qz12
                  obtain ⟨i028,hi028,_,hsz28,_⟩:=info_parts info3
                  have hcut28:=cut_to (P:=Tryd.prog) 75 3 .i64 Tryd.underlying75 hi028 (some ad152) x4_3.length co27 (ji21) (of_decide_eq_true qz12) q28 (Kd.R_reads' HO_4.out).2.1
                  have hr28:=Kd.R_take (m:=((ji21):Int).toNat) HO_4.out (by omega)
                  have hy28:y153.length=((ji21):Int).toNat:=(by rw [Ny153.out,List.length_take];omega)
                  rw [← Ny153.out] at hr28
                  rw [← hy28] at hr28 hcut28
                  clear hy28 hi028 hsz28 HO_4
                  have HO155:=Aside0.mk hr28
                  clear hr28
                  replace q28:=eq_true q28
                  go_wp2
                  go_roundg k3
                  case measure=>have:=HK1.out;have:=HJ10.out;have:=HK3.out;omega
                  case rel=>exact ⟨(x3_3++(⟨#[41]⟩:ByteArray)),(y153),qz16,H',⟨qz91⟩,⟨by (with_reducible repeat (first|apply Kd.R_alloc|apply Kd.R_drewN|apply Kd.R_drew));exact HO155.out⟩,⟨qz6⟩⟩
                 ·rw [if_neg c26] at H
                  exact absurd H (by simp)
                ·rw [if_neg c25] at H
                 exact absurd H (by simp)
               ·rw [if_neg c24] at H
                have c24b0:((rd x4_3 (ji21)) == 1)=false:=beq_eq_false_iff_ne.mpr c24
                have c24b1:((rd x4_3 (ji21)) != 1)=true:=bne_iff_ne.mpr c24
                by_cases c29:x3_3.size+1≤9223372036854775807
                ·rw [if_pos c29] at H
                 have c29b0:=eq_true c29
                 have c29b1:decide (x3_3.size+1≤9223372036854775807)=true:=decide_eq_true c29
                 try have c29b2:(9223372036854775807<x3_3.size+1)=False:=eq_false (Nat.not_lt.2 c29)
                 obtain ⟨y157,hy157⟩:∃ y_:List Int,y_=(x4_3.set ((ji21):Int).toNat (wrap64 ((rd x4_3 (ji21)) - 1))):=⟨_,rfl⟩
                 replace H:(spec_TrmText.l0 k3 l0 (x3_3++(⟨#[44]⟩:ByteArray)) y157 (wrap64 (x5_1+1)))=some r:=by first|(rw [hy157];exact H)|exact H
                 have Ny157:=Aside0.mk hy157
                 clear hy157
                 have H':=Aside0.mk H
                 clear H
                 obtain ⟨Ao31,co31,eo31⟩:=Kd.R_slice HO_4.out
                 subst eo31
                 have p152:0≤((ji21):Int):=of_decide_eq_true qz12
                 have q152:(ji21)<(x4_3.length:Int):=of_decide_eq_true qz12
                 obtain ⟨ad152,e152,hx152_0⟩:=Kd.at_int (Kd.R_reads' HO_4.out).2.2 (ji21) p152 q152
                 cases e152
                 replace p152:=eq_true p152
                 replace q152:=eq_true q152
                 have p156:0≤((ji21):Int):=of_decide_eq_true qz12
                 have q156:(ji21)<(x4_3.length:Int):=of_decide_eq_true qz12
                 obtain ⟨ad156,e156,hx156_0⟩:=Kd.at_int (Kd.R_reads' HO_4.out).2.2 (ji21) p156 q156
                 obtain rfl:ad152=ad156:=(by injection e156)
                 replace p156:=eq_true p156
                 replace q156:=eq_true q156
                 have p30:0≤((ji21):Int):=of_decide_eq_true qz12
                 have q30:((ji21):Int)<((x4_3.length:Int):Int):=of_decide_eq_true qz12
                 obtain ⟨go30,co30,eo30,gb30,gl30,cl30,HG30⟩:=Kd.R_form HO_4.out (by omega)
                 (first|cases eo30|(injection eo30 with ea_ en_ ec_;(first|subst ea_|(injection ea_ with ea_;subst ea_));subst ec_;clear en_))
                 have GB30:=Aside0.mk gb30
                 have GG30:=Aside0.mk HG30
                 clear gb30 gl30 HG30
                 (first|simp only [add_plain] at hx152_0|skip)
                 (first|simp only [add_plain] at hx156_0|skip)
                 obtain ⟨hx30_0,hf30_0⟩:=Kd.R_celln 0 HO_4.out ((ji21):Int) p30 q30
                 replace p30:=eq_true p30
                 replace q30:=eq_true q30
                 have HP32:=Kd.R_putg HO_4.out ((ji21):Int) (wrap64 ((rd x4_3 (ji21)) - 1))
                 go_wp2_with (first|((with_reducible refine gate_store (t:=3) (p:=82) rfl ?_);refine store_event (t:=3) (p:=82) (v:=?vo_w33) (w1:=(wr.setCell ⟨go30,((ji21):Int).toNat,none⟩ (.int .i64 (wrap64 ((rd x4_3 (ji21)) - 1))))) ?hg ?ho ?hn ?hr ?_;(case ho=>rfl);(case hg=>rfl);(case hn=>rfl);(case hr=>first|(go_simp;done)|(go_simp;rfl));intro w33 hw;have hg:wr.grownBy w33 (some go30):=(by rw [hw];exact HP32.2);have hp_:Kd.R (Kd.int .i64) 3 w33 w.heap.size (fun _=>True) (.slice (some ⟨go30,0,none⟩) x4_3.length co31) y157:=(by rw [hw,Ny157.out];exact HP32.1);clear HP32;have n0_:=Aside0.mk (hp_);have n1_:=Aside0.mk ((by rw [hw];exact below_set (HB.out) GB30.out:Below w.heap.size w w33));clear HO_4 HB;have HO_4:=n0_;have HB:=n1_;clear n0_ n1_ hg hw hp_))
                 go_roundg k3
                 case measure=>have:=HK1.out;have:=HJ10.out;have:=HK3.out;omega
                 case rel=>exact ⟨(x3_3++(⟨#[44]⟩:ByteArray)),(y157),(wrap64 (x5_1+1)),qz16,qz16,H',⟨qz91⟩,⟨qz44⟩,⟨qz6⟩⟩
                ·rw [if_neg c29] at H
                 exact absurd H (by simp)
              ·rw [if_neg c23] at H
               exact absurd H (by simp)
             ·rw [if_neg c22] at H
              exact absurd H (by simp)
            ·rw [if_neg c20] at H
             have c20b0:decide (0<(x4_3.length:Int))=false:=decide_eq_false c20
             have c20b1:decide (0<x4_3.length)=false:=decide_eq_false (by omega)
             clear c20
             have H':=Aside0.mk H
             clear H
             obtain ⟨Ao34,co34,eo34⟩:=Kd.R_slice HO_4.out
             subst eo34
             go_wp2
             go_roundg k3
             case measure=>have:=HK1.out;have:=HJ10.out;have:=HK3.out;omega
             case rel=>exact ⟨(x3_3),(x4_3),(wrap64 (x5_1+1)),qz16,qz16,H',⟨qz91⟩,⟨qz44⟩,⟨qz6⟩⟩
      ·rw [if_neg c10] at H
       exact absurd H (by simp)
     ·rw [if_neg c8] at H
      exact absurd H (by simp)
    ·rw [if_neg c7] at H
     have c7b0:decide (x5_1<(l0.length:Int))=false:=decide_eq_false c7
     clear c7
     obtain rfl:=Option.some.inj H
     go_wp2
     go_ret
     exact ⟨qz4,qz6⟩
 ·replace c3:=Bool.eq_false_iff.mpr c3
  subst c3
  have H1:(some (⟨#[]⟩:ByteArray))=some r:=qz29
  clear H
  have H:=H1
  clear H1
  obtain rfl:=Option.some.inj H
  go_enter Tryd.func19,Tryd.ntmps19
  go_wp2_with (first|((with_reducible refine gate_callee (f:=14) rfl ?_);refine goesL_ (some 7) rfl rfl Tryd.func14 (by kernel_rfl) rfl #[.slice A0 l0.length c0] rfl qz2 ?_;(with_reducible refine (spec_TrmOk.calls k _ _ l0 false _ ?side1 ?side2 A2.out).mono ?_);(case side1=>exact qz43);(case side2=>exact HC0.out);rintro e w35 ⟨rfl,hb⟩;refine ⟨_,rfl,?_⟩;have n0_:=Aside0.mk (below_step qz1 hb);clear HB;have HB:=n0_;clear n0_;(try clear hb);(try clear hb2);(try clear hk);(try clear hi)))
  go_ret
  exact ⟨qz4,qz6⟩

end Go.Proofs.YtlhniagacegbeaaDoor.P
