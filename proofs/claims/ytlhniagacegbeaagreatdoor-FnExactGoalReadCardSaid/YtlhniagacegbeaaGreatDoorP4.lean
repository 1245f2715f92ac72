/- Contracts of functions of the program: each as a Lean function, and that its call does what that says; printed by cprint.py (this session) over print.py of the kit. Conditions: the hypotheses of each theorem. -/
import Derived.Test.YtlhniagacegbeaaGreatDoorVZ
import Derived.Test.YtlhniagacegbeaaGreatDoorP0
import Derived.Test.YtlhniagacegbeaaGreatDoorP2
import Derived.Test.YtlhniagacegbeaaGreatDoorP3
namespace Go.Proofs.YtlhniagacegbeaaGreatDoor.P
open Go.RowKit Go.Proofs.YtlhniagacegbeaaGreatDoorW.PrintWords Go.Proofs.YtlhniagacegbeaaGreatDoorW.PrintLast Go.Proofs.YtlhniagacegbeaaGreatDoorW.PrintMore
attribute [local go_sem] max2_int min2_int max_two min_two max_three min_three max_four min_four   -- for this text's walks alone
set_option linter.unusedVariables false
set_option linter.unusedSimpArgs false

/-! ### spec_TrmText: function 36 -/
mutual
def spec_TrmText.l0:Nat→List (S63)→ByteArray→List Int→Int→Option (ByteArray)
 | 0,_,_,_,_=>none
 | k+1,x0,x3,x4,x5=>if x5<(x0.length:Int) then (if 0≤x5 then ((spec_l1Word.f k ((rd_T63 x0 x5).f0) ((rd_T63 x0 x5).f1) ((rd_T63 x0 x5).f2)).bind fun t147=>(if x3.size+t147.size≤9223372036854775807 then (if ((rd_T63 x0 x5).f0)=3 then (spec_TrmText.j1 k x0 (x3++t147) x4 x5 (decide (((rd_T63 x0 x5).f1) > 0))) else (spec_TrmText.j1 k x0 (x3++t147) x4 x5 false)) else (none))) else (none)) else (some x3)
def spec_TrmText.j1:Nat→List (S63)→ByteArray→List Int→Int→Bool→Option (ByteArray)
 | 0,_,_,_,_,_=>none
 | k+1,x0,x3,x4,x5,x36=>if x36=true then (if x3.size+1≤9223372036854775807 then (if 0≤x5 then (if x5<(x0.length:Int) then (if x4.length<17592186044416 then (spec_TrmText.l0 k x0 (x3++(⟨#[40]⟩:ByteArray)) (x4++[(rd_T63 x0 x5).f1]) (wrap64 (x5+1))) else (none)) else (none)) else (none)) else (none)) else (spec_TrmText.l1 k x0 x3 x4 x5)
def spec_TrmText.l1:Nat→List (S63)→ByteArray→List Int→Int→Option (ByteArray)
 | 0,_,_,_,_=>none
 | k+1,x0,x3,x4,x5=>if (x4.length:Int) > 0 then (if 0≤(wrap64 ((x4.length:Int) - 1)) then (if (wrap64 ((x4.length:Int) - 1))<(x4.length:Int) then (if (rd x4 (wrap64 ((x4.length:Int) - 1)))=1 then (if x3.size+1≤9223372036854775807 then (if (wrap64 ((x4.length:Int) - 1))≤(x4.length:Int) then (spec_TrmText.l1 k x0 (x3++(⟨#[41]⟩:ByteArray)) (x4.take ((wrap64 ((x4.length:Int) - 1)):Int).toNat) x5) else (none)) else (none)) else (if x3.size+1≤9223372036854775807 then (spec_TrmText.l0 k x0 (x3++(⟨#[44]⟩:ByteArray)) (x4.set ((wrap64 ((x4.length:Int) - 1)):Int).toNat (wrap64 ((rd x4 (wrap64 ((x4.length:Int) - 1))) - 1))) (wrap64 (x5+1))) else (none))) else (none)) else (none)) else (spec_TrmText.l0 k x0 x3 x4 (wrap64 (x5+1)))
end
def spec_TrmText.f (k:Nat) (l0:List (S63)):Option (ByteArray):=(spec_TrmOk.f k l0).bind fun t142=>(if t142=true then (spec_TrmText.l0 k l0 (⟨#[]⟩:ByteArray) (([]:List Int)) 0) else (some (⟨#[]⟩:ByteArray)))
set_option maxHeartbeats 8000000 in
set_option maxRecDepth 100000 in
theorem spec_TrmText.calls (k:Nat) (A0:Option Addr) (c0:Nat) (l0:List (S63)) (r:ByteArray) (w:World) (hr0:Kd.C k63 w A0 l0.length l0) (hc0:l0.length≤c0) (h:spec_TrmText.f k l0=some r) :
  Calls Tryz.prog 36 #[.slice A0 l0.length c0] w fun e w'=>e = .returned (.string r)∧Below w.heap.size w w':=by
 have hu63:=Tryz.underlying63
 have HR0:=Aside0.mk hr0
 have HC0:=Aside0.mk hc0
 clear hr0 hc0
 have HB:=Aside0.mk (Below.refl w.heap.size w)
 have H:((spec_TrmOk.f k l0).bind fun t142=>(if t142=true then (spec_TrmText.l0 k l0 (⟨#[]⟩:ByteArray) (([]:List Int)) 0) else (some (⟨#[]⟩:ByteArray))))=some r:=h
 clear h
 replace H:=Option.bind_eq_some_iff.mp H
 obtain ⟨t142,A20,H⟩:=H
 try dsimp only at H
 have A2:=Aside0.mk A20
 clear A20
 by_cases c3:t142=true
 ·subst c3
  have H1:(spec_TrmText.l0 k l0 (⟨#[]⟩:ByteArray) (([]:List Int)) 0)=some r:=qz57
  clear H
  have H:=H1
  clear H1
  obtain ⟨y143,hy143⟩:∃ y_:List Int,y_=(([]:List Int)):=⟨_,rfl⟩
  replace H:(spec_TrmText.l0 k l0 (⟨#[]⟩:ByteArray) y143 0)=some r:=by first|(rw [hy143];exact H)|exact H
  have Ny143:=Aside0.mk hy143
  clear hy143
  have H':=Aside0.mk H
  clear H
  go_enter Tryz.func36,Tryz.ntmps36
  go_wp2_with (first|((with_reducible refine gate_callee (f:=62) rfl ?_);refine goesL_ (some 7) rfl rfl Tryz.func62 (by kernel_rfl) rfl #[.slice A0 l0.length c0] rfl qz2 ?_;(with_reducible refine (spec_TrmOk.calls k _ _ l0 true _ ?side1 ?side2 A2.out).mono ?_);(case side1=>exact qz100);(case side2=>exact HC0.out);rintro e w4 ⟨rfl,hb⟩;refine ⟨_,rfl,?_⟩;have n0_:=Aside0.mk (below_step qz1 hb);clear HB;have HB:=n0_;clear n0_;(try clear hb);(try clear hb2);(try clear hk);(try clear hi))|((with_reducible refine gate_dst (N:=9) rfl ?_);(try (refine gate_guard (by rfl) ?_;dsimp only));refine Kd.R_lit (Kd.int .i64) _ 3 ?hg (N:=9) ?hd (xs:=([]:List Int)) (inner:=[]) (ok:=fun _=>True) (okp:=fun _=>True) ?hr ?hp (fun _ hk=>hk) trivial (Below.refl _ _) (Nat.le_refl _) (by simp) ?_;(case hd=>rfl);(case hg=>rfl);(case hr=>first|(go_simp;done)|(go_simp;rfl));(case hp=>exact (Reps.none _ _));intro v144 w5 ho6 hb hg_ hnew_;clear hg_ hnew_;(first|rw [← Ny143.out] at ho6|(simp only [Int.reduceToNat] at ho6;rw [← Ny143.out] at ho6));have n0_:=Aside0.mk (Kd.R_lower ho6 (below_size qz1));have n1_:=Aside0.mk (below_step qz1 hb);clear HB;have HO145:=n0_;have HB:=n1_;clear n0_ n1_ hb ho6))
  go_loopg [3,4,5] k (fun kq v3 v4 v5 w'=>∃ (x3_1:ByteArray) (x4_1:List Int) (x5_1:Int),v3 = .string x3_1∧v5 = .int .i64 x5_1∧Aside0 (spec_TrmText.l0 kq l0 x3_1 x4_1 x5_1=some r)∧Aside0 (kq≤k)∧Aside0 (Kd.R (Kd.int .i64) 3 w' w.heap.size (fun _=>True) v4 x4_1)∧Aside0 (Below w.heap.size w w'))
  case atStart=>exact ⟨((⟨#[]⟩:ByteArray)),(y143),(0),qz9,qz9,H',⟨Nat.le_refl _⟩,⟨by (with_reducible repeat (first|apply Kd.R_alloc|apply Kd.R_drewN|apply Kd.R_drew));exact HO145.out⟩,⟨qz3⟩⟩
  case round=>
   clear H'
   try clear p2
   try clear c3
   try clear c6
   obtain ⟨x3_1,x4_1,x5_1,rfl,rfl,HA,HK1,HO_4,HB⟩:=hrel
   cases gk with
   | zero=>exact absurd HA.out (by simp [spec_TrmText.l0])
   | succ k1=>
    have H:=HA.out
    clear HA
    simp only [spec_TrmText.l0] at H
    by_cases c7:x5_1<(l0.length:Int)
    ·rw [if_pos c7] at H
     have c7b0:decide (x5_1<(l0.length:Int))=true:=decide_eq_true c7
     clear c7
     by_cases c8:0≤x5_1
     ·rw [if_pos c8] at H
      have c8b0:decide (0≤x5_1)=true:=decide_eq_true c8
      clear c8
      replace H:=Option.bind_eq_some_iff.mp H
      obtain ⟨t147,A90,H⟩:=H
      try dsimp only at H
      have A9:=Aside0.mk A90
      clear A90
      by_cases c10:x3_1.size+t147.size≤9223372036854775807
      ·rw [if_pos c10] at H
       have c10b0:=eq_true c10
       have c10b1:decide (x3_1.size+t147.size≤9223372036854775807)=true:=decide_eq_true c10
       try have c10b2:(9223372036854775807<x3_1.size+t147.size)=False:=eq_false (Nat.not_lt.2 c10)
       have HC11:=Aside0.mk H
       clear H
       have p146:0≤(x5_1:Int):=of_decide_eq_true qz5
       have q146:x5_1<(l0.length:Int):=of_decide_eq_true qz5
       obtain ⟨ad146,e146,hx146_0,hx146_1,hx146_2⟩:=at_T63 HR0.out x5_1 p146 q146
       cases e146
       replace hx146_0:=(HB.out.cell (World.block_lt_of_cell? w _ hx146_0)).trans hx146_0
       replace hx146_1:=(HB.out.cell (World.block_lt_of_cell? w _ hx146_1)).trans hx146_1
       replace hx146_2:=(HB.out.cell (World.block_lt_of_cell? w _ hx146_2)).trans hx146_2
       replace p146:=eq_true p146
       replace q146:=eq_true q146
       go_upto_region 9 with (first|((with_reducible refine gate_callee (f:=63) rfl ?_);refine goesL_ (some 21) rfl rfl Tryz.func63 (by kernel_rfl) rfl #[.agg #[.int .i64 ((rd_T63 l0 x5_1).f0),.int .i64 ((rd_T63 l0 x5_1).f1),.string ((rd_T63 l0 x5_1).f2)]] rfl qz2 ?_;(with_reducible refine (spec_l1Word.calls k1 ((rd_T63 l0 x5_1).f0) ((rd_T63 l0 x5_1).f1) ((rd_T63 l0 x5_1).f2) t147 _ A9.out).mono ?_);rintro e w12 ⟨rfl,hb⟩;refine ⟨_,rfl,?_⟩;have n0_:=Aside0.mk (Kd.R_below qz18 hb);have n1_:=Aside0.mk (below_step qz1 hb);clear HO_4 HB;have HO_4:=n0_;have HB:=n1_;clear n0_ n1_;(try clear hb);(try clear hb2);(try clear hk);(try clear hi)))
       (try simp only [Act.put,List.setIfInBounds_toArray,List.set_cons_zero,List.set_cons_succ])
       go_cut [36] (fun v36 wc=>∃ (kq:Nat) (x36_10:Bool),v36 = .bool x36_10∧Aside0 (spec_TrmText.j1 kq l0 (x3_1++t147) x4_1 x5_1 x36_10=some r)∧Aside0 (kq≤k1)∧Aside0 (Kd.R (Kd.int .i64) 3 wc w.heap.size (fun _=>True) u4 x4_1)∧Aside0 (Below w.heap.size w wc))
       case first=>
        have H:=HC11.out
        clear HC11
        by_cases c13:((rd_T63 l0 x5_1).f0)=3
        ·rw [if_pos c13] at H
         have c13b0:(((rd_T63 l0 x5_1).f0) == 3)=true:=beq_iff_eq.mpr c13
         have c13b1:(((rd_T63 l0 x5_1).f0) != 3)=false:=bne_eq_false_iff_eq.mpr c13
         clear c13
         (first|rw [c13b0]|rw [c13b1]|(simp only [i64_w,i32_w];rw [c13b0])|skip)
         have H':=Aside0.mk H
         clear H
         have p148:0≤(x5_1:Int):=of_decide_eq_true qz5
         have q148:x5_1<(l0.length:Int):=of_decide_eq_true qz5
         obtain ⟨ad148,e148,hx148_0,hx148_1,hx148_2⟩:=at_T63 HR0.out x5_1 p148 q148
         obtain rfl:ad146=ad148:=(by injection e148)
         replace hx148_0:=(HB.out.cell (World.block_lt_of_cell? w _ hx148_0)).trans hx148_0
         replace hx148_1:=(HB.out.cell (World.block_lt_of_cell? w _ hx148_1)).trans hx148_1
         replace hx148_2:=(HB.out.cell (World.block_lt_of_cell? w _ hx148_2)).trans hx148_2
         replace p148:=eq_true p148
         replace q148:=eq_true q148
         have p149:0≤(x5_1:Int):=of_decide_eq_true qz5
         have q149:x5_1<(l0.length:Int):=of_decide_eq_true qz5
         obtain ⟨ad149,e149,hx149_0,hx149_1,hx149_2⟩:=at_T63 HR0.out x5_1 p149 q149
         obtain rfl:ad146=ad149:=(by injection e149)
         replace hx149_0:=(HB.out.cell (World.block_lt_of_cell? w _ hx149_0)).trans hx149_0
         replace hx149_1:=(HB.out.cell (World.block_lt_of_cell? w _ hx149_1)).trans hx149_1
         replace hx149_2:=(HB.out.cell (World.block_lt_of_cell? w _ hx149_2)).trans hx149_2
         replace p149:=eq_true p149
         replace q149:=eq_true q149
         go_wp2
         go_meet
         case rel=>exact ⟨_,(decide (((rd_T63 l0 x5_1).f1) > 0)),qz9,H',⟨qz125⟩,⟨qz18⟩,⟨qz3⟩⟩
        ·rw [if_neg c13] at H
         have c13b0:(((rd_T63 l0 x5_1).f0) == 3)=false:=beq_eq_false_iff_ne.mpr c13
         have c13b1:(((rd_T63 l0 x5_1).f0) != 3)=true:=bne_iff_ne.mpr c13
         (first|rw [c13b0]|rw [c13b1]|(simp only [i64_w,i32_w];rw [c13b0])|skip)
         have H':=Aside0.mk H
         clear H
         have p148:0≤(x5_1:Int):=of_decide_eq_true qz5
         have q148:x5_1<(l0.length:Int):=of_decide_eq_true qz5
         obtain ⟨ad148,e148,hx148_0,hx148_1,hx148_2⟩:=at_T63 HR0.out x5_1 p148 q148
         obtain rfl:ad146=ad148:=(by injection e148)
         replace hx148_0:=(HB.out.cell (World.block_lt_of_cell? w _ hx148_0)).trans hx148_0
         replace hx148_1:=(HB.out.cell (World.block_lt_of_cell? w _ hx148_1)).trans hx148_1
         replace hx148_2:=(HB.out.cell (World.block_lt_of_cell? w _ hx148_2)).trans hx148_2
         replace p148:=eq_true p148
         replace q148:=eq_true q148
         go_wp2
         go_meet
         case rel=>exact ⟨_,(false),qz9,H',⟨qz125⟩,⟨qz18⟩,⟨qz3⟩⟩
       case rest=>
        clear HC11
        try clear c1
        try clear p1
        try clear q1
        try clear hx1
        try clear p2
        try clear c3
        try clear c6
        try clear c7
        try clear c7b0
        try clear c8
        try clear c8b0
        try clear c10
        try clear c10b0
        try clear c10b1
        try clear c10b2
        try clear c13
        try clear c13b0
        try clear c13b1
        try clear hx146_0
        try clear hx146_1
        try clear hx146_2
        try clear hx148_0
        try clear hx148_1
        try clear hx148_2
        try clear hx149_0
        try clear hx149_1
        try clear hx149_2
        try clear p146
        try clear p148
        try clear p149
        try clear p2
        try clear q146
        try clear q148
        try clear q149
        obtain ⟨kq,x36_10,rfl,HA,HJ10,HO_4,HB⟩:=hcut
        cases kq with
        | zero=>exact absurd HA.out (by simp [spec_TrmText.j1])
        | succ kj10=>
         have H:=HA.out
         clear HA
         simp only [spec_TrmText.j1] at H
         by_cases c14:x36_10=true
         ·subst c14
          have H1:(if (x3_1++t147).size+1≤9223372036854775807 then (if 0≤x5_1 then (if x5_1<(l0.length:Int) then (if x4_1.length<17592186044416 then (spec_TrmText.l0 kj10 l0 ((x3_1++t147)++(⟨#[40]⟩:ByteArray)) (x4_1++[(rd_T63 l0 x5_1).f1]) (wrap64 (x5_1+1))) else (none)) else (none)) else (none)) else (none))=some r:=qz57
          clear H
          have H:=H1
          clear H1
          by_cases c15:(x3_1++t147).size+1≤9223372036854775807
          ·rw [if_pos c15] at H
           have c15b0:=eq_true c15
           have c15b1:decide ((x3_1++t147).size+1≤9223372036854775807)=true:=decide_eq_true c15
           try (have c15b1s:=c15b1;simp only [ByteArray.size_append] at c15b1s)
           try have c15b2:(9223372036854775807<(x3_1++t147).size+1)=False:=eq_false (Nat.not_lt.2 c15)
           try (have c15b2s:=c15b2;simp only [ByteArray.size_append] at c15b2s)
           by_cases c16:0≤x5_1
           ·rw [if_pos c16] at H
            have c16b0:decide (0≤x5_1)=true:=decide_eq_true c16
            clear c16
            by_cases c17:x5_1<(l0.length:Int)
            ·rw [if_pos c17] at H
             have c17b0:decide (x5_1<(l0.length:Int))=true:=decide_eq_true c17
             clear c17
             by_cases c18:x4_1.length<17592186044416
             ·rw [if_pos c18] at H
              have LMc18:=Aside0.mk c18
              clear c18
              obtain ⟨y151,hy151⟩:∃ y_:List Int,y_=(x4_1++[(rd_T63 l0 x5_1).f1]):=⟨_,rfl⟩
              replace H:(spec_TrmText.l0 kj10 l0 ((x3_1++t147)++(⟨#[40]⟩:ByteArray)) y151 (wrap64 (x5_1+1)))=some r:=by first|(rw [hy151];exact H)|exact H
              have Ny151:=Aside0.mk hy151
              clear hy151
              have H':=Aside0.mk H
              clear H
              have p150:0≤(x5_1:Int):=of_decide_eq_true qz5
              have q150:x5_1<(l0.length:Int):=of_decide_eq_true qz5
              obtain ⟨ad150,e150,hx150_0,hx150_1,hx150_2⟩:=at_T63 HR0.out x5_1 p150 q150
              obtain rfl:ad146=ad150:=(by injection e150)
              replace hx150_0:=(HB.out.cell (World.block_lt_of_cell? w _ hx150_0)).trans hx150_0
              replace hx150_1:=(HB.out.cell (World.block_lt_of_cell? w _ hx150_1)).trans hx150_1
              replace hx150_2:=(HB.out.cell (World.block_lt_of_cell? w _ hx150_2)).trans hx150_2
              replace p150:=eq_true p150
              replace q150:=eq_true q150
              go_wp2_with (first|((with_reducible refine gate_builtin (b:=.append) (xs:=#[.tmp 39,.tmp 45]) rfl ?_);(try (refine gate_guard (by rfl) ?_;dsimp only));at_builtin;refine Kd.R_append (Kd.int .i64) (w0:=w) w.heap.size rfl (.tmp 39) (.tmp 45) 78 3 (.int .i64 0) 8 rfl Tryz.underlying78 info3 rfl (by decide) (by omega) u4 x4_1 ((rd_T63 l0 x5_1).f1) [.int .i64 ((rd_T63 l0 x5_1).f1)] (fun _=>True) (fun _=>False) rfl rfl ?aP (fun _ hk=>hk.elim) ?aF ?aO ?aB ?aS ?aL ?_;(case aP=>exact rfl);(case aB=>exact qz1);(case aF=>exact (fun _ _=>trivial));(case aO=>exact qz18);(case aS=>exact (below_size qz1));(case aL=>have:=LMc18.out;omega);intro v152 w19 ho hb hg hat;rw [← Ny151.out] at ho;have n0_:=Aside0.mk (hb);have n1_:=Aside0.mk (ho);clear HB HO_4;have HB:=n0_;have HO153:=n1_;clear n0_ n1_ ho hb hg hat))
              go_roundg kj10
              case measure=>have:=HK1.out;have:=HJ10.out;omega
              case rel=>exact ⟨((x3_1++t147)++(⟨#[40]⟩:ByteArray)),(y151),(wrap64 (x5_1+1)),qz9,qz9,H',⟨by have:=HK1.out;have:=HJ10.out;omega⟩,⟨by (with_reducible repeat (first|apply Kd.R_alloc|apply Kd.R_drewN|apply Kd.R_drew));exact HO153.out⟩,⟨qz3⟩⟩
             ·rw [if_neg c18] at H
              exact absurd H (by simp)
            ·rw [if_neg c17] at H
             exact absurd H (by simp)
           ·rw [if_neg c16] at H
            exact absurd H (by simp)
          ·rw [if_neg c15] at H
           exact absurd H (by simp)
         ·replace c14:=Bool.eq_false_iff.mpr c14
          subst c14
          have H1:(spec_TrmText.l1 kj10 l0 (x3_1++t147) x4_1 x5_1)=some r:=qz23
          clear H
          have H:=H1
          clear H1
          have H':=Aside0.mk H
          clear H
          go_wp2
          go_loopg [3,4] kj10 (fun kq v3 v4 w'=>∃ (x3_3:ByteArray) (x4_3:List Int),v3 = .string x3_3∧Aside0 (spec_TrmText.l1 kq l0 x3_3 x4_3 x5_1=some r)∧Aside0 (kq≤kj10)∧Aside0 (Kd.R (Kd.int .i64) 3 w' w.heap.size (fun _=>True) v4 x4_3)∧Aside0 (Below w.heap.size w w'))
          case atStart=>exact ⟨((x3_1++t147)),(x4_1),qz9,H',⟨Nat.le_refl _⟩,⟨qz18⟩,⟨qz3⟩⟩
          case round=>
           clear H'
           try clear c1
           try clear p1
           try clear q1
           try clear hx1
           try clear p2
           try clear c3
           try clear c6
           try clear p6
           try clear c7
           try clear c7b0
           try clear c8
           try clear c8b0
           try clear c10
           try clear c10b0
           try clear c10b1
           try clear c10b2
           try clear c13
           try clear c13b0
           try clear c13b1
           try clear c14
           try clear p14
           try clear q14
           try clear hx14
           try clear c15
           try clear c15b0
           try clear c15b1
           try clear c15b2
           try clear p15
           try clear q15
           try clear hx15
           try clear c16
           try clear c16b0
           try clear c17
           try clear c17b0
           try clear c18
           try clear hx146_0
           try clear hx146_1
           try clear hx146_2
           try clear hx148_0
           try clear hx148_1
           try clear hx148_2
           try clear hx149_0
           try clear hx149_1
           try clear hx149_2
           try clear hx150_0
           try clear hx150_1
           try clear hx150_2
           try clear p1
           try clear p146
           try clear p148
           try clear p149
           try clear p150
           try clear p2
           try clear q1
           try clear q146
           try clear q148
           try clear q149
           try clear q150
           obtain ⟨x3_3,x4_3,rfl,HA,HK3,HO_4,HB⟩:=hrel
           cases gk with
           | zero=>exact absurd HA.out (by simp [spec_TrmText.l1])
           | succ k3=>
            have H:=HA.out
            clear HA
            simp only [spec_TrmText.l1] at H
            by_cases c20:(x4_3.length:Int) > 0
            ·rw [if_pos c20] at H
             have c20b0:decide (0<(x4_3.length:Int))=true:=decide_eq_true c20
             have c20b1:decide (0<x4_3.length)=true:=decide_eq_true (by omega)
             clear c20
             obtain ⟨ji21,hji21⟩:∃ j_:Int,(wrap64 ((x4_3.length:Int) - 1))=j_:=⟨_,rfl⟩
             replace H:(if 0≤(ji21) then (if (ji21)<(x4_3.length:Int) then (if (rd x4_3 (ji21))=1 then (if x3_3.size+1≤9223372036854775807 then (if (ji21)≤(x4_3.length:Int) then (spec_TrmText.l1 k3 l0 (x3_3++(⟨#[41]⟩:ByteArray)) (x4_3.take ((ji21):Int).toNat) x5_1) else (none)) else (none)) else (if x3_3.size+1≤9223372036854775807 then (spec_TrmText.l0 k3 l0 (x3_3++(⟨#[44]⟩:ByteArray)) (x4_3.set ((ji21):Int).toNat (wrap64 ((rd x4_3 (ji21)) - 1))) (wrap64 (x5_1+1))) else (none))) else (none)) else (none))=some r:=by first|(rw [hji21] at H;exact H)|(simp only [hji21] at H ⊢;exact H)
             have hji21w:(IntKind.i64.wrap ((x4_3.length:Int) - 1))=ji21:=(i64_w _).trans hji21
             by_cases c22:0≤(ji21)
             ·rw [if_pos c22] at H
              have c22b0:decide (0≤(ji21))=true:=decide_eq_true c22
              clear c22
              by_cases c23:(ji21)<(x4_3.length:Int)
              ·rw [if_pos c23] at H
               have c23b0:decide ((ji21)<(x4_3.length:Int))=true:=decide_eq_true c23
               clear c23
               by_cases c24:(rd x4_3 (ji21))=1
               ·rw [if_pos c24] at H
                have c24b0:((rd x4_3 (ji21)) == 1)=true:=beq_iff_eq.mpr c24
                have c24b1:((rd x4_3 (ji21)) != 1)=false:=bne_eq_false_iff_eq.mpr c24
                clear c24
                by_cases c25:x3_3.size+1≤9223372036854775807
                ·rw [if_pos c25] at H
                 have c25b0:=eq_true c25
                 have c25b1:decide (x3_3.size+1≤9223372036854775807)=true:=decide_eq_true c25
                 try have c25b2:(9223372036854775807<x3_3.size+1)=False:=eq_false (Nat.not_lt.2 c25)
                 by_cases c26:(ji21)≤(x4_3.length:Int)
                 ·rw [if_pos c26] at H
                  have c26b0:=eq_true c26
                  have c26b1:decide ((ji21)≤(x4_3.length:Int))=true:=decide_eq_true c26
                  clear c26
                  obtain ⟨y155,hy155⟩:∃ y_:List Int,y_=(x4_3.take ((ji21):Int).toNat):=⟨_,rfl⟩
                  replace H:(spec_TrmText.l1 k3 l0 (x3_3++(⟨#[41]⟩:ByteArray)) y155 x5_1)=some r:=by first|(rw [hy155];exact H)|exact H
                  have Ny155:=Aside0.mk hy155
                  clear hy155
                  have H':=Aside0.mk H
                  clear H
                  obtain ⟨Ao27,co27,eo27⟩:=Kd.R_slice HO_4.out
                  subst eo27
                  have p154:0≤((ji21):Int):=of_decide_eq_true qz5
                  have q154:(ji21)<(x4_3.length:Int):=of_decide_eq_true qz5
                  obtain ⟨ad154,e154,hx154_0⟩:=Kd.at_int (Kd.R_reads' HO_4.out).2.2 (ji21) p154 q154
                  cases e154
                  replace p154:=eq_true p154
                  replace q154:=eq_true q154
                  have q28:((ji21):Int)≤((x4_3.length:Int):Int):=of_decide_eq_true qz5
                  obtain ⟨i028,hi028,_,hsz28,_⟩:=info_parts info3
                  have hcut28:=cut_to (P:=Tryz.prog) 78 3 .i64 Tryz.underlying78 hi028 (some ad154) x4_3.length co27 (ji21) (of_decide_eq_true qz5) q28 (Kd.R_reads' HO_4.out).2.1
                  have hr28:=Kd.R_take (m:=((ji21):Int).toNat) HO_4.out (by omega)
                  have hy28:y155.length=((ji21):Int).toNat:=(by rw [Ny155.out,List.length_take];omega)
                  rw [← Ny155.out] at hr28
                  rw [← hy28] at hr28 hcut28
                  clear hy28 hi028 hsz28 HO_4
                  have HO157:=Aside0.mk hr28
                  clear hr28
                  replace q28:=eq_true q28
                  go_wp2
                  go_roundg k3
                  case measure=>have:=HK1.out;have:=HJ10.out;have:=HK3.out;omega
                  case rel=>exact ⟨(x3_3++(⟨#[41]⟩:ByteArray)),(y155),qz9,H',⟨qz184⟩,⟨by (with_reducible repeat (first|apply Kd.R_alloc|apply Kd.R_drewN|apply Kd.R_drew));exact HO157.out⟩,⟨qz3⟩⟩
                 ·rw [if_neg c26] at H
                  exact absurd H (by simp)
                ·rw [if_neg c25] at H
                 exact absurd H (by simp)
               ·rw [if_neg c24] at H
                have c24b0:((rd x4_3 (ji21)) == 1)=false:=beq_eq_false_iff_ne.mpr c24
                have c24b1:((rd x4_3 (ji21)) != 1)=true:=bne_iff_ne.mpr c24
                by_cases c29:x3_3.size+1≤9223372036854775807
                ·rw [if_pos c29] at H
                 have c29b0:=eq_true c29
                 have c29b1:decide (x3_3.size+1≤9223372036854775807)=true:=decide_eq_true c29
                 try have c29b2:(9223372036854775807<x3_3.size+1)=False:=eq_false (Nat.not_lt.2 c29)
                 obtain ⟨y159,hy159⟩:∃ y_:List Int,y_=(x4_3.set ((ji21):Int).toNat (wrap64 ((rd x4_3 (ji21)) - 1))):=⟨_,rfl⟩
                 replace H:(spec_TrmText.l0 k3 l0 (x3_3++(⟨#[44]⟩:ByteArray)) y159 (wrap64 (x5_1+1)))=some r:=by first|(rw [hy159];exact H)|exact H
                 have Ny159:=Aside0.mk hy159
                 clear hy159
                 have H':=Aside0.mk H
                 clear H
                 obtain ⟨Ao31,co31,eo31⟩:=Kd.R_slice HO_4.out
                 subst eo31
                 have p154:0≤((ji21):Int):=of_decide_eq_true qz5
                 have q154:(ji21)<(x4_3.length:Int):=of_decide_eq_true qz5
                 obtain ⟨ad154,e154,hx154_0⟩:=Kd.at_int (Kd.R_reads' HO_4.out).2.2 (ji21) p154 q154
                 cases e154
                 replace p154:=eq_true p154
                 replace q154:=eq_true q154
                 have p158:0≤((ji21):Int):=of_decide_eq_true qz5
                 have q158:(ji21)<(x4_3.length:Int):=of_decide_eq_true qz5
                 obtain ⟨ad158,e158,hx158_0⟩:=Kd.at_int (Kd.R_reads' HO_4.out).2.2 (ji21) p158 q158
                 obtain rfl:ad154=ad158:=(by injection e158)
                 replace p158:=eq_true p158
                 replace q158:=eq_true q158
                 have p30:0≤((ji21):Int):=of_decide_eq_true qz5
                 have q30:((ji21):Int)<((x4_3.length:Int):Int):=of_decide_eq_true qz5
                 obtain ⟨go30,co30,eo30,gb30,gl30,cl30,HG30⟩:=Kd.R_form HO_4.out (by omega)
                 (first|cases eo30|(injection eo30 with ea_ en_ ec_;(first|subst ea_|(injection ea_ with ea_;subst ea_));subst ec_;clear en_))
                 have GB30:=Aside0.mk gb30
                 have GG30:=Aside0.mk HG30
                 clear gb30 gl30 HG30
                 (first|simp only [add_plain] at hx154_0|skip)
                 (first|simp only [add_plain] at hx158_0|skip)
                 obtain ⟨hx30_0,hf30_0⟩:=Kd.R_celln 0 HO_4.out ((ji21):Int) p30 q30
                 replace p30:=eq_true p30
                 replace q30:=eq_true q30
                 have HP32:=Kd.R_putg HO_4.out ((ji21):Int) (wrap64 ((rd x4_3 (ji21)) - 1))
                 go_wp2_with (first|((with_reducible refine gate_store (t:=3) (p:=82) rfl ?_);refine store_event (t:=3) (p:=82) (v:=?vo_w33) (w1:=(wr.setCell ⟨go30,((ji21):Int).toNat,none⟩ (.int .i64 (wrap64 ((rd x4_3 (ji21)) - 1))))) ?hg ?ho ?hn ?hr ?_;(case ho=>rfl);(case hg=>rfl);(case hn=>rfl);(case hr=>first|(go_simp;done)|(go_simp;rfl));intro w33 hw;have hg:wr.grownBy w33 (some go30):=(by rw [hw];exact HP32.2);have hp_:Kd.R (Kd.int .i64) 3 w33 w.heap.size (fun _=>True) (.slice (some ⟨go30,0,none⟩) x4_3.length co31) y159:=(by rw [hw,Ny159.out];exact HP32.1);clear HP32;have n0_:=Aside0.mk (hp_);have n1_:=Aside0.mk ((by rw [hw];exact below_set (HB.out) GB30.out:Below w.heap.size w w33));clear HO_4 HB;have HO_4:=n0_;have HB:=n1_;clear n0_ n1_ hg hw hp_))
                 go_roundg k3
                 case measure=>have:=HK1.out;have:=HJ10.out;have:=HK3.out;omega
                 case rel=>exact ⟨(x3_3++(⟨#[44]⟩:ByteArray)),(y159),(wrap64 (x5_1+1)),qz9,qz9,H',⟨qz184⟩,⟨qz18⟩,⟨qz3⟩⟩
                ·rw [if_neg c29] at H
                 exact absurd H (by simp)
              ·rw [if_neg c23] at H
               exact absurd H (by simp)
             ·rw [if_neg c22] at H
              exact absurd H (by simp)
            ·rw [if_neg c20] at H
             have c20b0:decide (0<(x4_3.length:Int))=false:=decide_eq_false c20
             have c20b1:decide (0<x4_3.length)=false:=decide_eq_false (by omega)
             clear c20
             have H':=Aside0.mk H
             clear H
             obtain ⟨Ao34,co34,eo34⟩:=Kd.R_slice HO_4.out
             subst eo34
             go_wp2
             go_roundg k3
             case measure=>have:=HK1.out;have:=HJ10.out;have:=HK3.out;omega
             case rel=>exact ⟨(x3_3),(x4_3),(wrap64 (x5_1+1)),qz9,qz9,H',⟨qz184⟩,⟨qz18⟩,⟨qz3⟩⟩
      ·rw [if_neg c10] at H
       exact absurd H (by simp)
     ·rw [if_neg c8] at H
      exact absurd H (by simp)
    ·rw [if_neg c7] at H
     have c7b0:decide (x5_1<(l0.length:Int))=false:=decide_eq_false c7
     clear c7
     obtain rfl:=Option.some.inj H
     go_wp2
     go_ret
     exact ⟨qz4,qz3⟩
 ·replace c3:=Bool.eq_false_iff.mpr c3
  subst c3
  have H1:(some (⟨#[]⟩:ByteArray))=some r:=qz23
  clear H
  have H:=H1
  clear H1
  obtain rfl:=Option.some.inj H
  go_enter Tryz.func36,Tryz.ntmps36
  go_wp2_with (first|((with_reducible refine gate_callee (f:=62) rfl ?_);refine goesL_ (some 7) rfl rfl Tryz.func62 (by kernel_rfl) rfl #[.slice A0 l0.length c0] rfl qz2 ?_;(with_reducible refine (spec_TrmOk.calls k _ _ l0 false _ ?side1 ?side2 A2.out).mono ?_);(case side1=>exact qz100);(case side2=>exact HC0.out);rintro e w35 ⟨rfl,hb⟩;refine ⟨_,rfl,?_⟩;have n0_:=Aside0.mk (below_step qz1 hb);clear HB;have HB:=n0_;clear n0_;(try clear hb);(try clear hb2);(try clear hk);(try clear hi)))
  go_ret
  exact ⟨qz4,qz3⟩

/-! ### spec_l1Digits: function 95 -/
mutual
def spec_l1Digits.l0:Nat→ByteArray→Int→Option (Int)
 | 0,_,_=>none
 | k+1,x0,x5=>if x5<(x0.size:Int) then (if 0≤x5 then (if (bt x0 x5)≥48 then (spec_l1Digits.j1 k x0 x5 (decide ((bt x0 x5)≤57))) else (spec_l1Digits.j1 k x0 x5 false)) else (none)) else (spec_l1Digits.j1 k x0 x5 false)
def spec_l1Digits.j1:Nat→ByteArray→Int→Bool→Option (Int)
 | 0,_,_,_=>none
 | k+1,x0,x5,x22=>if x22=true then (spec_l1Digits.l0 k x0 (wrap64 (x5+1))) else (some x5)
end
def spec_l1Digits.f (k:Nat) (a0:ByteArray) (a1:Int):Option (Int):=spec_l1Digits.l0 k a0 a1
set_option maxHeartbeats 8000000 in
set_option maxRecDepth 100000 in
theorem spec_l1Digits.calls (k:Nat) (a0:ByteArray) (a1:Int) (r:Int) (w:World) (h:spec_l1Digits.f k a0 a1=some r) :
  Calls Tryz.prog 95 #[.string a0,.int .i64 a1] w fun e w'=>e = .returned (.int .i64 r)∧Drawn0 w w':=by
 have H:(spec_l1Digits.l0 k a0 a1)=some r:=h
 clear h
 have H':=Aside0.mk H
 clear H
 go_enter Tryz.func95,Tryz.ntmps95
 go_wp2
 go_loopg [5] k (fun kq v5 w'=>∃ (x5_1:Int),v5 = .int .i64 x5_1∧Aside0 (spec_l1Digits.l0 kq a0 x5_1=some r)∧Aside0 (kq≤k)∧Drawn0 w w')
 case atStart=>exact ⟨(a1),qz9,H',⟨Nat.le_refl _⟩,qz33⟩
 case round=>
  clear H'
  try clear p2
  obtain ⟨x5_1,rfl,HA,HK1,⟨m1,rfl⟩⟩:=hrel
  cases gk with
  | zero=>exact absurd HA.out (by simp [spec_l1Digits.l0])
  | succ k1=>
   have H:=HA.out
   clear HA
   simp only [spec_l1Digits.l0] at H
   have HC3:=Aside0.mk H
   clear H
   go_upto_region 2 with (fail)
   go_cut [22] (fun v22 wc=>∃ (kq:Nat) (x22_2:Bool),v22 = .bool x22_2∧Aside0 (spec_l1Digits.j1 kq a0 x5_1 x22_2=some r)∧Aside0 (kq≤k1)∧Drawn0 w wc)
   case first=>
    have H:=HC3.out
    clear HC3
    by_cases c4:x5_1<(a0.size:Int)
    ·rw [if_pos c4] at H
     have c4b0:decide (x5_1<(a0.size:Int))=true:=decide_eq_true c4
     clear c4
     (first|rw [c4b0]|rw [c4b1]|(simp only [i64_w,i32_w];rw [c4b0])|skip)
     by_cases c5:0≤x5_1
     ·rw [if_pos c5] at H
      have c5b0:decide (0≤x5_1)=true:=decide_eq_true c5
      clear c5
      by_cases c7:(bt a0 x5_1)≥48
      ·rw [if_pos c7] at H
       have c7b0:decide (48≤(bt a0 x5_1))=true:=decide_eq_true c7
       clear c7
       have H':=Aside0.mk H
       clear H
       have p6:0≤(x5_1:Int):=of_decide_eq_true qz5
       have q6:x5_1<(a0.size:Int):=of_decide_eq_true qz5
       have hx6:=bt_at a0 x5_1
       replace p6:=eq_true p6
       replace q6:=eq_true q6
       have p8:0≤(x5_1:Int):=of_decide_eq_true qz5
       have q8:x5_1<(a0.size:Int):=of_decide_eq_true qz5
       have hx8:=bt_at a0 x5_1
       replace p8:=eq_true p8
       replace q8:=eq_true q8
       go_wp2
       go_meet
       case rel=>exact ⟨_,(decide ((bt a0 x5_1)≤57)),qz9,H',⟨qz125⟩,qz33⟩
      ·rw [if_neg c7] at H
       have c7b0:decide (48≤(bt a0 x5_1))=false:=decide_eq_false c7
       clear c7
       have H':=Aside0.mk H
       clear H
       have p6:0≤(x5_1:Int):=of_decide_eq_true qz5
       have q6:x5_1<(a0.size:Int):=of_decide_eq_true qz5
       have hx6:=bt_at a0 x5_1
       replace p6:=eq_true p6
       replace q6:=eq_true q6
       go_wp2
       go_meet
       case rel=>exact ⟨_,(false),qz9,H',⟨qz125⟩,qz33⟩
     ·rw [if_neg c5] at H
      exact absurd H (by simp)
    ·rw [if_neg c4] at H
     have c4b0:decide (x5_1<(a0.size:Int))=false:=decide_eq_false c4
     clear c4
     (first|rw [c4b0]|rw [c4b1]|(simp only [i64_w,i32_w];rw [c4b0])|skip)
     have H':=Aside0.mk H
     clear H
     go_wp2
     go_meet
     case rel=>exact ⟨_,(false),qz9,H',⟨qz125⟩,qz33⟩
   case rest=>
    clear HC3
    try clear p2
    try clear c4
    try clear c4b0
    try clear c5
    try clear c5b0
    try clear p6
    try clear q6
    try clear hx6
    try clear c7
    try clear c7b0
    try clear p8
    try clear q8
    try clear hx8
    try clear p2
    try clear p6
    try clear p8
    try clear q6
    try clear q8
    obtain ⟨kq,x22_2,rfl,HA,HJ2,⟨mc2,rfl⟩⟩:=hcut
    cases kq with
    | zero=>exact absurd HA.out (by simp [spec_l1Digits.j1])
    | succ kj2=>
     have H:=HA.out
     clear HA
     simp only [spec_l1Digits.j1] at H
     by_cases c9:x22_2=true
     ·subst c9
      have H1:(spec_l1Digits.l0 kj2 a0 (wrap64 (x5_1+1)))=some r:=qz57
      clear H
      have H:=H1
      clear H1
      have H':=Aside0.mk H
      clear H
      go_wp2
      go_roundg kj2
      case measure=>have:=HK1.out;have:=HJ2.out;omega
      case rel=>exact ⟨(wrap64 (x5_1+1)),qz9,H',⟨by have:=HK1.out;have:=HJ2.out;omega⟩,qz33⟩
     ·replace c9:=Bool.eq_false_iff.mpr c9
      subst c9
      have H1:(some x5_1)=some r:=qz23
      clear H
      have H:=H1
      clear H1
      obtain rfl:=Option.some.inj H
      go_wp2
      go_ret
      exact ⟨qz9,qz33⟩

end Go.Proofs.YtlhniagacegbeaaGreatDoor.P
