/- Contracts of functions of the program: each as a Lean function, and that its call does what that says; printed by cprint.py (this session) over print.py of the kit. Conditions: the hypotheses of each theorem. -/
import Derived.Test.YtibencknfheplaaDoorVZ
import Derived.Test.YtibencknfheplaaDoorP0
import Derived.Test.YtibencknfheplaaDoorP2
namespace Go.Proofs.YtibencknfheplaaDoor.P
open Go.RowKit Go.Proofs.YtibencknfheplaaDoorW.PrintWords Go.Proofs.YtibencknfheplaaDoorW.PrintLast Go.Proofs.YtibencknfheplaaDoorW.PrintMore
attribute [local go_sem] max2_int min2_int max_two min_two max_three min_three max_four min_four   -- for this text's walks alone
set_option linter.unusedVariables false
set_option linter.unusedSimpArgs false

/-! ### spec_TrmText: function 7 -/
mutual
def spec_TrmText.l0:Nat→List (S34)→ByteArray→List Int→Int→Option (ByteArray)
 | 0,_,_,_,_=>none
 | k+1,x0,x3,x4,x5=>if x5<(x0.length:Int) then (if 0≤x5 then ((spec_l1Word.f k ((rd_T34 x0 x5).f0) ((rd_T34 x0 x5).f1) ((rd_T34 x0 x5).f2)).bind fun t126=>(if x3.size+t126.size≤9223372036854775807 then (if ((rd_T34 x0 x5).f0)=3 then (spec_TrmText.j1 k x0 (x3++t126) x4 x5 (decide (((rd_T34 x0 x5).f1) > 0))) else (spec_TrmText.j1 k x0 (x3++t126) x4 x5 false)) else (none))) else (none)) else (some x3)
def spec_TrmText.j1:Nat→List (S34)→ByteArray→List Int→Int→Bool→Option (ByteArray)
 | 0,_,_,_,_,_=>none
 | k+1,x0,x3,x4,x5,x36=>if x36=true then (if x3.size+1≤9223372036854775807 then (if 0≤x5 then (if x5<(x0.length:Int) then (if x4.length<17592186044416 then (spec_TrmText.l0 k x0 (x3++(⟨#[40]⟩:ByteArray)) (x4++[(rd_T34 x0 x5).f1]) (wrap64 (x5+1))) else (none)) else (none)) else (none)) else (none)) else (spec_TrmText.l1 k x0 x3 x4 x5)
def spec_TrmText.l1:Nat→List (S34)→ByteArray→List Int→Int→Option (ByteArray)
 | 0,_,_,_,_=>none
 | k+1,x0,x3,x4,x5=>if (x4.length:Int) > 0 then (if 0≤(wrap64 ((x4.length:Int) - 1)) then (if (wrap64 ((x4.length:Int) - 1))<(x4.length:Int) then (if (rd x4 (wrap64 ((x4.length:Int) - 1)))=1 then (if x3.size+1≤9223372036854775807 then (if (wrap64 ((x4.length:Int) - 1))≤(x4.length:Int) then (spec_TrmText.l1 k x0 (x3++(⟨#[41]⟩:ByteArray)) (x4.take ((wrap64 ((x4.length:Int) - 1)):Int).toNat) x5) else (none)) else (none)) else (if x3.size+1≤9223372036854775807 then (spec_TrmText.l0 k x0 (x3++(⟨#[44]⟩:ByteArray)) (x4.set ((wrap64 ((x4.length:Int) - 1)):Int).toNat (wrap64 ((rd x4 (wrap64 ((x4.length:Int) - 1))) - 1))) (wrap64 (x5+1))) else (none))) else (none)) else (none)) else (spec_TrmText.l0 k x0 x3 x4 (wrap64 (x5+1)))
end
def spec_TrmText.f (k:Nat) (l0:List (S34)):Option (ByteArray):=(spec_TrmOk.f k l0).bind fun t121=>(if t121=true then (spec_TrmText.l0 k l0 (⟨#[]⟩:ByteArray) (([]:List Int)) 0) else (some (⟨#[]⟩:ByteArray)))
set_option maxHeartbeats 8000000 in
set_option maxRecDepth 100000 in
theorem spec_TrmText.calls (k:Nat) (A0:Option Addr) (c0:Nat) (l0:List (S34)) (r:ByteArray) (w:World) (hr0:Kd.C k34 w A0 l0.length l0) (hc0:l0.length≤c0) (h:spec_TrmText.f k l0=some r) :
  Calls Tryd.prog 7 #[.slice A0 l0.length c0] w fun e w'=>e = .returned (.string r)∧Below w.heap.size w w':=by
 have hu34:=Tryd.underlying34
 have HR0:=Aside0.mk hr0
 have HC0:=Aside0.mk hc0
 clear hr0 hc0
 have HB:=Aside0.mk (Below.refl w.heap.size w)
 have H:((spec_TrmOk.f k l0).bind fun t121=>(if t121=true then (spec_TrmText.l0 k l0 (⟨#[]⟩:ByteArray) (([]:List Int)) 0) else (some (⟨#[]⟩:ByteArray))))=some r:=h
 clear h
 replace H:=Option.bind_eq_some_iff.mp H
 obtain ⟨t121,A20,H⟩:=H
 try dsimp only at H
 have A2:=Aside0.mk A20
 clear A20
 by_cases c3:t121=true
 ·subst c3
  have H1:(spec_TrmText.l0 k l0 (⟨#[]⟩:ByteArray) (([]:List Int)) 0)=some r:=qz35
  clear H
  have H:=H1
  clear H1
  obtain ⟨y122,hy122⟩:∃ y_:List Int,y_=(([]:List Int)):=⟨_,rfl⟩
  replace H:(spec_TrmText.l0 k l0 (⟨#[]⟩:ByteArray) y122 0)=some r:=by first|(rw [hy122];exact H)|exact H
  have Ny122:=Aside0.mk hy122
  clear hy122
  have H':=Aside0.mk H
  clear H
  go_enter Tryd.func7,Tryd.ntmps7
  go_wp2_with (first|((with_reducible refine gate_callee (f:=12) rfl ?_);refine goesL_ (some 7) rfl rfl Tryd.func12 (by kernel_rfl) rfl #[.slice A0 l0.length c0] rfl qz5 ?_;(with_reducible refine (spec_TrmOk.calls k _ _ l0 true _ ?side1 ?side2 A2.out).mono ?_);(case side1=>exact qz29);(case side2=>exact HC0.out);rintro e w4 ⟨rfl,hb⟩;refine ⟨_,rfl,?_⟩;have n0_:=Aside0.mk (below_step qz4 hb);clear HB;have HB:=n0_;clear n0_;(try clear hb);(try clear hb2);(try clear hk);(try clear hi))|((with_reducible refine gate_dst (N:=9) rfl ?_);(try (refine gate_guard (by rfl) ?_;dsimp only));refine Kd.R_lit (Kd.int .i64) _ 3 ?hg (N:=9) ?hd (xs:=([]:List Int)) (inner:=[]) (ok:=fun _=>True) (okp:=fun _=>True) ?hr ?hp (fun _ hk=>hk) trivial (Below.refl _ _) (Nat.le_refl _) (by simp) ?_;(case hd=>rfl);(case hg=>rfl);(case hr=>first|(go_simp;done)|(go_simp;rfl));(case hp=>exact (Reps.none _ _));intro v123 w5 ho6 hb hg_ hnew_;clear hg_ hnew_;(first|rw [← Ny122.out] at ho6|(simp only [Int.reduceToNat] at ho6;rw [← Ny122.out] at ho6));have n0_:=Aside0.mk (Kd.R_lower ho6 (below_size qz4));have n1_:=Aside0.mk (below_step qz4 hb);clear HB;have HO124:=n0_;have HB:=n1_;clear n0_ n1_ hb ho6))
  go_loopg [3,4,5] k (fun kq v3 v4 v5 w'=>∃ (x3_1:ByteArray) (x4_1:List Int) (x5_1:Int),v3 = .string x3_1∧v5 = .int .i64 x5_1∧Aside0 (spec_TrmText.l0 kq l0 x3_1 x4_1 x5_1=some r)∧Aside0 (kq≤k)∧Aside0 (Kd.R (Kd.int .i64) 3 w' w.heap.size (fun _=>True) v4 x4_1)∧Aside0 (Below w.heap.size w w'))
  case atStart=>exact ⟨((⟨#[]⟩:ByteArray)),(y122),(0),qz11,qz11,H',⟨Nat.le_refl _⟩,⟨by (with_reducible repeat (first|apply Kd.R_alloc|apply Kd.R_drewN|apply Kd.R_drew));exact HO124.out⟩,⟨qz7⟩⟩
  case round=>
   clear H'
   try clear c1
   try clear p2
   try clear c3
   obtain ⟨x3_1,x4_1,x5_1,rfl,rfl,HA,HK1,HO_4,HB⟩:=hrel
   cases gk with
   | zero=>exact absurd HA.out (by simp [spec_TrmText.l0])
   | succ k1=>
    have H:=HA.out
    clear HA
    simp only [spec_TrmText.l0] at H
    by_cases c7:x5_1<(l0.length:Int)
    ·rw [if_pos c7] at H
     have c7b0:decide (x5_1<(l0.length:Int))=true:=decide_eq_true c7
     clear c7
     by_cases c8:0≤x5_1
     ·rw [if_pos c8] at H
      have c8b0:decide (0≤x5_1)=true:=decide_eq_true c8
      clear c8
      replace H:=Option.bind_eq_some_iff.mp H
      obtain ⟨t126,A90,H⟩:=H
      try dsimp only at H
      have A9:=Aside0.mk A90
      clear A90
      by_cases c10:x3_1.size+t126.size≤9223372036854775807
      ·rw [if_pos c10] at H
       have c10b0:=eq_true c10
       have c10b1:decide (x3_1.size+t126.size≤9223372036854775807)=true:=decide_eq_true c10
       try have c10b2:(9223372036854775807<x3_1.size+t126.size)=False:=eq_false (Nat.not_lt.2 c10)
       have HC11:=Aside0.mk H
       clear H
       have p125:0≤(x5_1:Int):=of_decide_eq_true qz6
       have q125:x5_1<(l0.length:Int):=of_decide_eq_true qz6
       obtain ⟨ad125,e125,hx125_0,hx125_1,hx125_2⟩:=at_T34 HR0.out x5_1 p125 q125
       cases e125
       replace hx125_0:=(HB.out.cell (World.block_lt_of_cell? w _ hx125_0)).trans hx125_0
       replace hx125_1:=(HB.out.cell (World.block_lt_of_cell? w _ hx125_1)).trans hx125_1
       replace hx125_2:=(HB.out.cell (World.block_lt_of_cell? w _ hx125_2)).trans hx125_2
       replace p125:=eq_true p125
       replace q125:=eq_true q125
       go_upto_region 9 with (first|((with_reducible refine gate_callee (f:=19) rfl ?_);refine goesL_ (some 21) rfl rfl Tryd.func19 (by kernel_rfl) rfl #[.agg #[.int .i64 ((rd_T34 l0 x5_1).f0),.int .i64 ((rd_T34 l0 x5_1).f1),.string ((rd_T34 l0 x5_1).f2)]] rfl qz5 ?_;(with_reducible refine (spec_l1Word.calls k1 ((rd_T34 l0 x5_1).f0) ((rd_T34 l0 x5_1).f1) ((rd_T34 l0 x5_1).f2) t126 _ A9.out).mono ?_);rintro e w12 ⟨rfl,hb⟩;refine ⟨_,rfl,?_⟩;have n0_:=Aside0.mk (Kd.R_below qz33 hb);have n1_:=Aside0.mk (below_step qz4 hb);clear HO_4 HB;have HO_4:=n0_;have HB:=n1_;clear n0_ n1_;(try clear hb);(try clear hb2);(try clear hk);(try clear hi)))
       (try simp only [Act.put,List.setIfInBounds_toArray,List.set_cons_zero,List.set_cons_succ])
       go_cut [36] (fun v36 wc=>∃ (kq:Nat) (x36_10:Bool),v36 = .bool x36_10∧Aside0 (spec_TrmText.j1 kq l0 (x3_1++t126) x4_1 x5_1 x36_10=some r)∧Aside0 (kq≤k1)∧Aside0 (Kd.R (Kd.int .i64) 3 wc w.heap.size (fun _=>True) u4 x4_1)∧Aside0 (Below w.heap.size w wc))
       case first=>
        have H:=HC11.out
        clear HC11
        by_cases c13:((rd_T34 l0 x5_1).f0)=3
        ·rw [if_pos c13] at H
         have c13b0:(((rd_T34 l0 x5_1).f0) == 3)=true:=beq_iff_eq.mpr c13
         have c13b1:(((rd_T34 l0 x5_1).f0) != 3)=false:=bne_eq_false_iff_eq.mpr c13
         clear c13
         (first|rw [c13b0]|rw [c13b1]|(simp only [i64_w,i32_w];rw [c13b0])|skip)
         have H':=Aside0.mk H
         clear H
         have p127:0≤(x5_1:Int):=of_decide_eq_true qz6
         have q127:x5_1<(l0.length:Int):=of_decide_eq_true qz6
         obtain ⟨ad127,e127,hx127_0,hx127_1,hx127_2⟩:=at_T34 HR0.out x5_1 p127 q127
         obtain rfl:ad125=ad127:=(by injection e127)
         replace hx127_0:=(HB.out.cell (World.block_lt_of_cell? w _ hx127_0)).trans hx127_0
         replace hx127_1:=(HB.out.cell (World.block_lt_of_cell? w _ hx127_1)).trans hx127_1
         replace hx127_2:=(HB.out.cell (World.block_lt_of_cell? w _ hx127_2)).trans hx127_2
         replace p127:=eq_true p127
         replace q127:=eq_true q127
         have p128:0≤(x5_1:Int):=of_decide_eq_true qz6
         have q128:x5_1<(l0.length:Int):=of_decide_eq_true qz6
         obtain ⟨ad128,e128,hx128_0,hx128_1,hx128_2⟩:=at_T34 HR0.out x5_1 p128 q128
         obtain rfl:ad125=ad128:=(by injection e128)
         replace hx128_0:=(HB.out.cell (World.block_lt_of_cell? w _ hx128_0)).trans hx128_0
         replace hx128_1:=(HB.out.cell (World.block_lt_of_cell? w _ hx128_1)).trans hx128_1
         replace hx128_2:=(HB.out.cell (World.block_lt_of_cell? w _ hx128_2)).trans hx128_2
         replace p128:=eq_true p128
         replace q128:=eq_true q128
         go_wp2
         go_meet
         case rel=>exact ⟨_,(decide (((rd_T34 l0 x5_1).f1) > 0)),qz11,H',⟨qz38⟩,⟨qz33⟩,⟨qz7⟩⟩
        ·rw [if_neg c13] at H
         have c13b0:(((rd_T34 l0 x5_1).f0) == 3)=false:=beq_eq_false_iff_ne.mpr c13
         have c13b1:(((rd_T34 l0 x5_1).f0) != 3)=true:=bne_iff_ne.mpr c13
         (first|rw [c13b0]|rw [c13b1]|(simp only [i64_w,i32_w];rw [c13b0])|skip)
         have H':=Aside0.mk H
         clear H
         have p127:0≤(x5_1:Int):=of_decide_eq_true qz6
         have q127:x5_1<(l0.length:Int):=of_decide_eq_true qz6
         obtain ⟨ad127,e127,hx127_0,hx127_1,hx127_2⟩:=at_T34 HR0.out x5_1 p127 q127
         obtain rfl:ad125=ad127:=(by injection e127)
         replace hx127_0:=(HB.out.cell (World.block_lt_of_cell? w _ hx127_0)).trans hx127_0
         replace hx127_1:=(HB.out.cell (World.block_lt_of_cell? w _ hx127_1)).trans hx127_1
         replace hx127_2:=(HB.out.cell (World.block_lt_of_cell? w _ hx127_2)).trans hx127_2
         replace p127:=eq_true p127
         replace q127:=eq_true q127
         go_wp2
         go_meet
         case rel=>exact ⟨_,(false),qz11,H',⟨qz38⟩,⟨qz33⟩,⟨qz7⟩⟩
       case rest=>
        clear HC11
        try clear c1
        try clear p1
        try clear q1
        try clear hx1
        try clear p2
        try clear c3
        try clear c7
        try clear c7b0
        try clear c8
        try clear c8b0
        try clear c10
        try clear c10b0
        try clear c10b1
        try clear c10b2
        try clear c12
        try clear p12
        try clear q12
        try clear hx12
        try clear c13
        try clear c13b0
        try clear c13b1
        try clear hx125_0
        try clear hx125_1
        try clear hx125_2
        try clear hx127_0
        try clear hx127_1
        try clear hx127_2
        try clear hx128_0
        try clear hx128_1
        try clear hx128_2
        try clear p125
        try clear p127
        try clear p128
        try clear p2
        try clear q125
        try clear q127
        try clear q128
        obtain ⟨kq,x36_10,rfl,HA,HJ10,HO_4,HB⟩:=hcut
        cases kq with
        | zero=>exact absurd HA.out (by simp [spec_TrmText.j1])
        | succ kj10=>
         have H:=HA.out
         clear HA
         simp only [spec_TrmText.j1] at H
         by_cases c14:x36_10=true
         ·subst c14
          have H1:(if (x3_1++t126).size+1≤9223372036854775807 then (if 0≤x5_1 then (if x5_1<(l0.length:Int) then (if x4_1.length<17592186044416 then (spec_TrmText.l0 kj10 l0 ((x3_1++t126)++(⟨#[40]⟩:ByteArray)) (x4_1++[(rd_T34 l0 x5_1).f1]) (wrap64 (x5_1+1))) else (none)) else (none)) else (none)) else (none))=some r:=qz35
          clear H
          have H:=H1
          clear H1
          by_cases c15:(x3_1++t126).size+1≤9223372036854775807
          ·rw [if_pos c15] at H
           have c15b0:=eq_true c15
           have c15b1:decide ((x3_1++t126).size+1≤9223372036854775807)=true:=decide_eq_true c15
           try (have c15b1s:=c15b1;simp only [ByteArray.size_append] at c15b1s)
           try have c15b2:(9223372036854775807<(x3_1++t126).size+1)=False:=eq_false (Nat.not_lt.2 c15)
           try (have c15b2s:=c15b2;simp only [ByteArray.size_append] at c15b2s)
           by_cases c16:0≤x5_1
           ·rw [if_pos c16] at H
            have c16b0:decide (0≤x5_1)=true:=decide_eq_true c16
            clear c16
            by_cases c17:x5_1<(l0.length:Int)
            ·rw [if_pos c17] at H
             have c17b0:decide (x5_1<(l0.length:Int))=true:=decide_eq_true c17
             clear c17
             by_cases c18:x4_1.length<17592186044416
             ·rw [if_pos c18] at H
              have LMc18:=Aside0.mk c18
              clear c18
              obtain ⟨y130,hy130⟩:∃ y_:List Int,y_=(x4_1++[(rd_T34 l0 x5_1).f1]):=⟨_,rfl⟩
              replace H:(spec_TrmText.l0 kj10 l0 ((x3_1++t126)++(⟨#[40]⟩:ByteArray)) y130 (wrap64 (x5_1+1)))=some r:=by first|(rw [hy130];exact H)|exact H
              have Ny130:=Aside0.mk hy130
              clear hy130
              have H':=Aside0.mk H
              clear H
              have p129:0≤(x5_1:Int):=of_decide_eq_true qz6
              have q129:x5_1<(l0.length:Int):=of_decide_eq_true qz6
              obtain ⟨ad129,e129,hx129_0,hx129_1,hx129_2⟩:=at_T34 HR0.out x5_1 p129 q129
              obtain rfl:ad125=ad129:=(by injection e129)
              replace hx129_0:=(HB.out.cell (World.block_lt_of_cell? w _ hx129_0)).trans hx129_0
              replace hx129_1:=(HB.out.cell (World.block_lt_of_cell? w _ hx129_1)).trans hx129_1
              replace hx129_2:=(HB.out.cell (World.block_lt_of_cell? w _ hx129_2)).trans hx129_2
              replace p129:=eq_true p129
              replace q129:=eq_true q129
              go_wp2_with (first|((with_reducible refine gate_builtin (b:=.append) (xs:=#[.tmp 39,.tmp 45]) rfl ?_);(try (refine gate_guard (by rfl) ?_;dsimp only));at_builtin;refine Kd.R_append (Kd.int .i64) (w0:=w) w.heap.size rfl (.tmp 39) (.tmp 45) 42 3 (.int .i64 0) 8 rfl Tryd.underlying42 info3 rfl (by decide) (by omega) u4 x4_1 ((rd_T34 l0 x5_1).f1) [.int .i64 ((rd_T34 l0 x5_1).f1)] (fun _=>True) (fun _=>False) rfl rfl ?aP (fun _ hk=>hk.elim) ?aF ?aO ?aB ?aS ?aL ?_;(case aP=>exact rfl);(case aB=>exact qz4);(case aF=>exact (fun _ _=>trivial));(case aO=>exact qz33);(case aS=>exact (below_size qz4));(case aL=>have:=LMc18.out;omega);intro v131 w19 ho hb hg hat;rw [← Ny130.out] at ho;have n0_:=Aside0.mk (hb);have n1_:=Aside0.mk (ho);clear HB HO_4;have HB:=n0_;have HO132:=n1_;clear n0_ n1_ ho hb hg hat))
              go_roundg kj10
              case measure=>have:=HK1.out;have:=HJ10.out;omega
              case rel=>exact ⟨((x3_1++t126)++(⟨#[40]⟩:ByteArray)),(y130),(wrap64 (x5_1+1)),qz11,qz11,H',⟨by have:=HK1.out;have:=HJ10.out;omega⟩,⟨by (with_reducible repeat (first|apply Kd.R_alloc|apply Kd.R_drewN|apply Kd.R_drew));exact HO132.out⟩,⟨qz7⟩⟩
             ·rw [if_neg c18] at H
              exact absurd H (by simp)
            ·rw [if_neg c17] at H
             exact absurd H (by simp)
           ·rw [if_neg c16] at H
            exact absurd H (by simp)
          ·rw [if_neg c15] at H
           exact absurd H (by simp)
         ·replace c14:=Bool.eq_false_iff.mpr c14
          subst c14
          have H1:(spec_TrmText.l1 kj10 l0 (x3_1++t126) x4_1 x5_1)=some r:=qz22
          clear H
          have H:=H1
          clear H1
          have H':=Aside0.mk H
          clear H
          go_wp2
          go_loopg [3,4] kj10 (fun kq v3 v4 w'=>∃ (x3_3:ByteArray) (x4_3:List Int),v3 = .string x3_3∧Aside0 (spec_TrmText.l1 kq l0 x3_3 x4_3 x5_1=some r)∧Aside0 (kq≤kj10)∧Aside0 (Kd.R (Kd.int .i64) 3 w' w.heap.size (fun _=>True) v4 x4_3)∧Aside0 (Below w.heap.size w w'))
          case atStart=>exact ⟨((x3_1++t126)),(x4_1),qz11,H',⟨Nat.le_refl _⟩,⟨qz33⟩,⟨qz7⟩⟩
          case round=>
           clear H'
           try clear c1
           try clear p1
           try clear q1
           try clear hx1
           try clear p2
           try clear c3
           try clear p6
           try clear c7
           try clear c7b0
           try clear c8
           try clear c8b0
           try clear c10
           try clear c10b0
           try clear c10b1
           try clear c10b2
           try clear c12
           try clear p12
           try clear q12
           try clear hx12
           try clear c13
           try clear c13b0
           try clear c13b1
           try clear c14
           try clear c15
           try clear c15b0
           try clear c15b1
           try clear c15b2
           try clear c16
           try clear c16b0
           try clear c17
           try clear c17b0
           try clear c18
           try clear c19
           try clear hx125_0
           try clear hx125_1
           try clear hx125_2
           try clear hx127_0
           try clear hx127_1
           try clear hx127_2
           try clear hx128_0
           try clear hx128_1
           try clear hx128_2
           try clear hx129_0
           try clear hx129_1
           try clear hx129_2
           try clear p1
           try clear p12
           try clear p125
           try clear p127
           try clear p128
           try clear p129
           try clear p2
           try clear q1
           try clear q12
           try clear q125
           try clear q127
           try clear q128
           try clear q129
           obtain ⟨x3_3,x4_3,rfl,HA,HK3,HO_4,HB⟩:=hrel
           cases gk with
           | zero=>exact absurd HA.out (by simp [spec_TrmText.l1])
           | succ k3=>
            have H:=HA.out
            clear HA
            simp only [spec_TrmText.l1] at H
            by_cases c20:(x4_3.length:Int) > 0
            ·rw [if_pos c20] at H
             have c20b0:decide (0<(x4_3.length:Int))=true:=decide_eq_true c20
             have c20b1:decide (0<x4_3.length)=true:=decide_eq_true (by omega)
             clear c20
             obtain ⟨ji21,hji21⟩:∃ j_:Int,(wrap64 ((x4_3.length:Int) - 1))=j_:=⟨_,rfl⟩
             replace H:(if 0≤(ji21) then (if (ji21)<(x4_3.length:Int) then (if (rd x4_3 (ji21))=1 then (if x3_3.size+1≤9223372036854775807 then (if (ji21)≤(x4_3.length:Int) then (spec_TrmText.l1 k3 l0 (x3_3++(⟨#[41]⟩:ByteArray)) (x4_3.take ((ji21):Int).toNat) x5_1) else (none)) else (none)) else (if x3_3.size+1≤9223372036854775807 then (spec_TrmText.l0 k3 l0 (x3_3++(⟨#[44]⟩:ByteArray)) (x4_3.set ((ji21):Int).toNat (wrap64 ((rd x4_3 (ji21)) - 1))) (wrap64 (x5_1+1))) else (none))) else (none)) else (none))=some r:=by first|(rw [hji21] at H;exact H)|(simp only [hji21] at H ⊢;exact H)
             have hji21w:(IntKind.i64.wrap ((x4_3.length:Int) - 1))=ji21:=(i64_w _).trans hji21
             by_cases c22:0≤(ji21)
             ·rw [if_pos c22] at H
              have c22b0:decide (0≤(ji21))=true:=decide_eq_true c22
              clear c22
              by_cases c23:(ji21)<(x4_3.length:Int)
              ·rw [if_pos c23] at H
               have c23b0:decide ((ji21)<(x4_3.length:Int))=true:=decide_eq_true c23
               clear c23
               by_cases c24:(rd x4_3 (ji21))=1
               ·rw [if_pos c24] at H
                have c24b0:((rd x4_3 (ji21)) == 1)=true:=beq_iff_eq.mpr c24
                have c24b1:((rd x4_3 (ji21)) != 1)=false:=bne_eq_false_iff_eq.mpr c24
                clear c24
                by_cases c25:x3_3.size+1≤9223372036854775807
                ·rw [if_pos c25] at H
                 have c25b0:=eq_true c25
                 have c25b1:decide (x3_3.size+1≤9223372036854775807)=true:=decide_eq_true c25
                 try have c25b2:(9223372036854775807<x3_3.size+1)=False:=eq_false (Nat.not_lt.2 c25)
                 by_cases c26:(ji21)≤(x4_3.length:Int)
                 ·rw [if_pos c26] at H
                  have c26b0:=eq_true c26
                  have c26b1:decide ((ji21)≤(x4_3.length:Int))=true:=decide_eq_true c26
                  clear c26
                  obtain ⟨y134,hy134⟩:∃ y_:List Int,y_=(x4_3.take ((ji21):Int).toNat):=⟨_,rfl⟩
                  replace H:(spec_TrmText.l1 k3 l0 (x3_3++(⟨#[41]⟩:ByteArray)) y134 x5_1)=some r:=by first|(rw [hy134];exact H)|exact H
                  have Ny134:=Aside0.mk hy134
                  clear hy134
                  have H':=Aside0.mk H
                  clear H
                  obtain ⟨Ao27,co27,eo27⟩:=Kd.R_slice HO_4.out
                  subst eo27
                  have p133:0≤((ji21):Int):=of_decide_eq_true qz6
                  have q133:(ji21)<(x4_3.length:Int):=of_decide_eq_true qz6
                  obtain ⟨ad133,e133,hx133_0⟩:=Kd.at_int (Kd.R_reads' HO_4.out).2.2 (ji21) p133 q133
                  cases e133
                  replace p133:=eq_true p133
                  replace q133:=eq_true q133
                  have q28:((ji21):Int)≤((x4_3.length:Int):Int):=of_decide_eq_true qz6
                  obtain ⟨i028,hi028,_,hsz28,_⟩:=info_parts info3
                  have hcut28:=cut_to (P:=Tryd.prog) 42 3 .i64 Tryd.underlying42 hi028 (some ad133) x4_3.length co27 (ji21) (of_decide_eq_true qz6) q28 (Kd.R_reads' HO_4.out).2.1
                  have hr28:=Kd.R_take (m:=((ji21):Int).toNat) HO_4.out (by omega)
                  have hy28:y134.length=((ji21):Int).toNat:=(by rw [Ny134.out,List.length_take];omega)
                  rw [← Ny134.out] at hr28
                  rw [← hy28] at hr28 hcut28
                  clear hy28 hi028 hsz28 HO_4
                  have HO136:=Aside0.mk hr28
                  clear hr28
                  replace q28:=eq_true q28
                  go_wp2
                  go_roundg k3
                  case measure=>have:=HK1.out;have:=HJ10.out;have:=HK3.out;omega
                  case rel=>exact ⟨(x3_3++(⟨#[41]⟩:ByteArray)),(y134),qz11,H',⟨qz52⟩,⟨by (with_reducible repeat (first|apply Kd.R_alloc|apply Kd.R_drewN|apply Kd.R_drew));exact HO136.out⟩,⟨qz7⟩⟩
                 ·rw [if_neg c26] at H
                  exact absurd H (by simp)
                ·rw [if_neg c25] at H
                 exact absurd H (by simp)
               ·rw [if_neg c24] at H
                have c24b0:((rd x4_3 (ji21)) == 1)=false:=beq_eq_false_iff_ne.mpr c24
                have c24b1:((rd x4_3 (ji21)) != 1)=true:=bne_iff_ne.mpr c24
                by_cases c29:x3_3.size+1≤9223372036854775807
                ·rw [if_pos c29] at H
                 have c29b0:=eq_true c29
                 have c29b1:decide (x3_3.size+1≤9223372036854775807)=true:=decide_eq_true c29
                 try have c29b2:(9223372036854775807<x3_3.size+1)=False:=eq_false (Nat.not_lt.2 c29)
                 obtain ⟨y138,hy138⟩:∃ y_:List Int,y_=(x4_3.set ((ji21):Int).toNat (wrap64 ((rd x4_3 (ji21)) - 1))):=⟨_,rfl⟩
                 replace H:(spec_TrmText.l0 k3 l0 (x3_3++(⟨#[44]⟩:ByteArray)) y138 (wrap64 (x5_1+1)))=some r:=by first|(rw [hy138];exact H)|exact H
                 have Ny138:=Aside0.mk hy138
                 clear hy138
                 have H':=Aside0.mk H
                 clear H
                 obtain ⟨Ao31,co31,eo31⟩:=Kd.R_slice HO_4.out
                 subst eo31
                 have p133:0≤((ji21):Int):=of_decide_eq_true qz6
                 have q133:(ji21)<(x4_3.length:Int):=of_decide_eq_true qz6
                 obtain ⟨ad133,e133,hx133_0⟩:=Kd.at_int (Kd.R_reads' HO_4.out).2.2 (ji21) p133 q133
                 cases e133
                 replace p133:=eq_true p133
                 replace q133:=eq_true q133
                 have p137:0≤((ji21):Int):=of_decide_eq_true qz6
                 have q137:(ji21)<(x4_3.length:Int):=of_decide_eq_true qz6
                 obtain ⟨ad137,e137,hx137_0⟩:=Kd.at_int (Kd.R_reads' HO_4.out).2.2 (ji21) p137 q137
                 obtain rfl:ad133=ad137:=(by injection e137)
                 replace p137:=eq_true p137
                 replace q137:=eq_true q137
                 have p30:0≤((ji21):Int):=of_decide_eq_true qz6
                 have q30:((ji21):Int)<((x4_3.length:Int):Int):=of_decide_eq_true qz6
                 obtain ⟨go30,co30,eo30,gb30,gl30,cl30,HG30⟩:=Kd.R_form HO_4.out (by omega)
                 (first|cases eo30|(injection eo30 with ea_ en_ ec_;(first|subst ea_|(injection ea_ with ea_;subst ea_));subst ec_;clear en_))
                 have GB30:=Aside0.mk gb30
                 have GG30:=Aside0.mk HG30
                 clear gb30 gl30 HG30
                 (first|simp only [add_plain] at hx133_0|skip)
                 (first|simp only [add_plain] at hx137_0|skip)
                 obtain ⟨hx30_0,hf30_0⟩:=Kd.R_celln 0 HO_4.out ((ji21):Int) p30 q30
                 replace p30:=eq_true p30
                 replace q30:=eq_true q30
                 have HP32:=Kd.R_putg HO_4.out ((ji21):Int) (wrap64 ((rd x4_3 (ji21)) - 1))
                 go_wp2_with (first|((with_reducible refine gate_store (t:=3) (p:=82) rfl ?_);refine store_event (t:=3) (p:=82) (v:=?vo_w33) (w1:=(wr.setCell ⟨go30,((ji21):Int).toNat,none⟩ (.int .i64 (wrap64 ((rd x4_3 (ji21)) - 1))))) ?hg ?ho ?hn ?hr ?_;(case ho=>rfl);(case hg=>rfl);(case hn=>rfl);(case hr=>first|(go_simp;done)|(go_simp;rfl));intro w33 hw;have hg:wr.grownBy w33 (some go30):=(by rw [hw];exact HP32.2);have hp_:Kd.R (Kd.int .i64) 3 w33 w.heap.size (fun _=>True) (.slice (some ⟨go30,0,none⟩) x4_3.length co31) y138:=(by rw [hw,Ny138.out];exact HP32.1);clear HP32;have n0_:=Aside0.mk (hp_);have n1_:=Aside0.mk ((by rw [hw];exact below_set (HB.out) GB30.out:Below w.heap.size w w33));clear HO_4 HB;have HO_4:=n0_;have HB:=n1_;clear n0_ n1_ hg hw hp_))
                 go_roundg k3
                 case measure=>have:=HK1.out;have:=HJ10.out;have:=HK3.out;omega
                 case rel=>exact ⟨(x3_3++(⟨#[44]⟩:ByteArray)),(y138),(wrap64 (x5_1+1)),qz11,qz11,H',⟨qz52⟩,⟨qz33⟩,⟨qz7⟩⟩
                ·rw [if_neg c29] at H
                 exact absurd H (by simp)
              ·rw [if_neg c23] at H
               exact absurd H (by simp)
             ·rw [if_neg c22] at H
              exact absurd H (by simp)
            ·rw [if_neg c20] at H
             have c20b0:decide (0<(x4_3.length:Int))=false:=decide_eq_false c20
             have c20b1:decide (0<x4_3.length)=false:=decide_eq_false (by omega)
             clear c20
             have H':=Aside0.mk H
             clear H
             obtain ⟨Ao34,co34,eo34⟩:=Kd.R_slice HO_4.out
             subst eo34
             go_wp2
             go_roundg k3
             case measure=>have:=HK1.out;have:=HJ10.out;have:=HK3.out;omega
             case rel=>exact ⟨(x3_3),(x4_3),(wrap64 (x5_1+1)),qz11,qz11,H',⟨qz52⟩,⟨qz33⟩,⟨qz7⟩⟩
      ·rw [if_neg c10] at H
       exact absurd H (by simp)
     ·rw [if_neg c8] at H
      exact absurd H (by simp)
    ·rw [if_neg c7] at H
     have c7b0:decide (x5_1<(l0.length:Int))=false:=decide_eq_false c7
     clear c7
     obtain rfl:=Option.some.inj H
     go_wp2
     go_ret
     exact ⟨qz8,qz7⟩
 ·replace c3:=Bool.eq_false_iff.mpr c3
  subst c3
  have H1:(some (⟨#[]⟩:ByteArray))=some r:=qz22
  clear H
  have H:=H1
  clear H1
  obtain rfl:=Option.some.inj H
  go_enter Tryd.func7,Tryd.ntmps7
  go_wp2_with (first|((with_reducible refine gate_callee (f:=12) rfl ?_);refine goesL_ (some 7) rfl rfl Tryd.func12 (by kernel_rfl) rfl #[.slice A0 l0.length c0] rfl qz5 ?_;(with_reducible refine (spec_TrmOk.calls k _ _ l0 false _ ?side1 ?side2 A2.out).mono ?_);(case side1=>exact qz29);(case side2=>exact HC0.out);rintro e w35 ⟨rfl,hb⟩;refine ⟨_,rfl,?_⟩;have n0_:=Aside0.mk (below_step qz4 hb);clear HB;have HB:=n0_;clear n0_;(try clear hb);(try clear hb2);(try clear hk);(try clear hi)))
  go_ret
  exact ⟨qz8,qz7⟩

/-! ### impl_in: function 35 -/
def impl_in.f (a0:Int) (a1:Int) (a2:Int):Option (Bool):=if a0≥a1 then (some (decide (a0≤a2))) else (some false)
set_option maxHeartbeats 8000000 in
set_option maxRecDepth 100000 in
theorem impl_in.calls (a0:Int) (a1:Int) (a2:Int) (r:Bool) (w:World) (h:impl_in.f a0 a1 a2=some r) :
  Calls Tryd.prog 35 #[.int .i64 a0,.int .i64 a1,.int .i64 a2] w fun e w'=>e = .returned (.bool r)∧Drawn0 w w':=by
 have H:(if a0≥a1 then (some (decide (a0≤a2))) else (some false))=some r:=h
 clear h
 by_cases c4:a0≥a1
 ·rw [if_pos c4] at H
  have c4b0:decide (a1≤a0)=true:=decide_eq_true c4
  clear c4
  obtain rfl:=Option.some.inj H
  go_enter Tryd.func35,Tryd.ntmps35
  go_wp2
  go_ret
  exact ⟨qz11,qz23⟩
 ·rw [if_neg c4] at H
  have c4b0:decide (a1≤a0)=false:=decide_eq_false c4
  clear c4
  obtain rfl:=Option.some.inj H
  go_enter Tryd.func35,Tryd.ntmps35
  go_wp2
  go_ret
  exact ⟨qz11,qz23⟩

/-! ### strings_Trim: function 64 -/
/-- strings.Trim at an ASCII cutset: the shelf's. -/
def strings_Trim.f (a0:ByteArray) (a1:ByteArray):Option (ByteArray):=if a0.size≤9223372036854775807 then (if a1.size<4294967281 then (if a1.data.toList.all (fun b=>decide (b.toNat<128)) then some (⟨(Lib.trimS a0.data.toList a1.data.toList).toArray⟩:ByteArray) else none) else none) else none
theorem strings_Trim.calls (a0:ByteArray) (a1:ByteArray) (r:ByteArray) (w:World) (h:strings_Trim.f a0 a1=some r) :
  Calls Tryd.prog 64 #[.string a0,.string a1] w fun e w'=>e = .returned (.string r)∧Below w.heap.size w w':=by
 unfold strings_Trim.f at h
 by_cases h1:a0.size≤9223372036854775807
 case neg=>rw [if_neg h1] at h;cases h
 rw [if_pos h1] at h
 by_cases h2:a1.size<4294967281
 case neg=>rw [if_neg h2] at h;cases h
 rw [if_pos h2] at h
 by_cases h3:a1.data.toList.all (fun b=>decide (b.toNat<128))=true
 case neg=>rw [if_neg h3] at h;cases h
 rw [if_pos h3] at h
 obtain rfl:=Option.some.inj h
 refine Tryd.trim_set a0 a1 w h1 h2 ?_
 intro j b hj
 have:=List.all_eq_true.1 h3 b (List.mem_of_getElem? hj)
 simpa using this

/-! ### impl_nameOk: function 54 -/
def impl_nameOk.f (a0:ByteArray):Option (Bool):=(impl_in.f (a0.size:Int) 1 8).bind fun t139=>(if t139=true then ((strings_Trim.f a0 (⟨#[97,98,99,100,101,102,103,104,105,106,107,108,109,110,111,112,113,114,115,116,117,118,119,120,121,122]⟩:ByteArray)).bind fun t140=>(if t140.toList=([]:List UInt8) then (some (a0.toList != ([97,110,100]:List UInt8))) else (some false))) else (some false))
set_option maxHeartbeats 8000000 in
set_option maxRecDepth 100000 in
theorem impl_nameOk.calls (a0:ByteArray) (r:Bool) (w:World) (h:impl_nameOk.f a0=some r) :
  Calls Tryd.prog 54 #[.string a0] w fun e w'=>e = .returned (.bool r)∧Below w.heap.size w w':=by
 have HB:=Aside0.mk (Below.refl w.heap.size w)
 have H:((impl_in.f (a0.size:Int) 1 8).bind fun t139=>(if t139=true then ((strings_Trim.f a0 (⟨#[97,98,99,100,101,102,103,104,105,106,107,108,109,110,111,112,113,114,115,116,117,118,119,120,121,122]⟩:ByteArray)).bind fun t140=>(if t140.toList=([]:List UInt8) then (some (a0.toList != ([97,110,100]:List UInt8))) else (some false))) else (some false)))=some r:=h
 clear h
 replace H:=Option.bind_eq_some_iff.mp H
 obtain ⟨t139,A20,H⟩:=H
 try dsimp only at H
 have A2:=Aside0.mk A20
 clear A20
 by_cases c3:t139=true
 ·subst c3
  have H1:((strings_Trim.f a0 (⟨#[97,98,99,100,101,102,103,104,105,106,107,108,109,110,111,112,113,114,115,116,117,118,119,120,121,122]⟩:ByteArray)).bind fun t140=>(if t140.toList=([]:List UInt8) then (some (a0.toList != ([97,110,100]:List UInt8))) else (some false)))=some r:=qz35
  clear H
  have H:=H1
  clear H1
  replace H:=Option.bind_eq_some_iff.mp H
  obtain ⟨t140,A40,H⟩:=H
  try dsimp only at H
  have A4:=Aside0.mk A40
  clear A40
  by_cases c5:t140.toList=([]:List UInt8)
  ·rw [if_pos c5] at H
   have c5b0:(t140.toList == ([]:List UInt8))=true:=beq_iff_eq.mpr c5
   have c5b1:(t140.toList != ([]:List UInt8))=false:=bne_eq_false_iff_eq.mpr c5
   clear c5
   obtain rfl:=Option.some.inj H
   go_enter Tryd.func54,Tryd.ntmps54
   go_wp2_with (first|((with_reducible refine gate_callee (f:=35) rfl ?_);refine goesL_ (some 5) rfl rfl Tryd.func35 (by kernel_rfl) rfl #[.int .i64 (a0.size:Int),.int .i64 1,.int .i64 8] rfl qz5 ?_;(with_reducible refine (impl_in.calls (a0.size:Int) 1 8 true _ A2.out).mono ?_);rintro e w' ⟨rfl,⟨nd,rfl⟩⟩;refine ⟨_,rfl,?_⟩)|(go_at_call 64;(with_reducible refine (strings_Trim.calls a0 (⟨#[97,98,99,100,101,102,103,104,105,106,107,108,109,110,111,112,113,114,115,116,117,118,119,120,121,122]⟩:ByteArray) t140 _ A4.out).mono ?_);rintro e w6 ⟨rfl,hb⟩;have n0_:=Aside0.mk (below_step qz4 hb);clear HB;have HB:=n0_;clear n0_;(try clear hb);(try clear hb2);(try clear hk);(try clear hi)))
   go_ret
   exact ⟨qz8,qz7⟩
  ·rw [if_neg c5] at H
   have c5b0:(t140.toList == ([]:List UInt8))=false:=beq_eq_false_iff_ne.mpr c5
   have c5b1:(t140.toList != ([]:List UInt8))=true:=bne_iff_ne.mpr c5
   obtain rfl:=Option.some.inj H
   go_enter Tryd.func54,Tryd.ntmps54
   go_wp2_with (first|((with_reducible refine gate_callee (f:=35) rfl ?_);refine goesL_ (some 5) rfl rfl Tryd.func35 (by kernel_rfl) rfl #[.int .i64 (a0.size:Int),.int .i64 1,.int .i64 8] rfl qz5 ?_;(with_reducible refine (impl_in.calls (a0.size:Int) 1 8 true _ A2.out).mono ?_);rintro e w' ⟨rfl,⟨nd,rfl⟩⟩;refine ⟨_,rfl,?_⟩)|(go_at_call 64;(with_reducible refine (strings_Trim.calls a0 (⟨#[97,98,99,100,101,102,103,104,105,106,107,108,109,110,111,112,113,114,115,116,117,118,119,120,121,122]⟩:ByteArray) t140 _ A4.out).mono ?_);rintro e w7 ⟨rfl,hb⟩;have n0_:=Aside0.mk (below_step qz4 hb);clear HB;have HB:=n0_;clear n0_;(try clear hb);(try clear hb2);(try clear hk);(try clear hi)))
   go_ret
   exact ⟨qz8,qz7⟩
 ·replace c3:=Bool.eq_false_iff.mpr c3
  subst c3
  have H1:(some false)=some r:=qz22
  clear H
  have H:=H1
  clear H1
  obtain rfl:=Option.some.inj H
  go_enter Tryd.func54,Tryd.ntmps54
  go_wp2_with (first|((with_reducible refine gate_callee (f:=35) rfl ?_);refine goesL_ (some 5) rfl rfl Tryd.func35 (by kernel_rfl) rfl #[.int .i64 (a0.size:Int),.int .i64 1,.int .i64 8] rfl qz5 ?_;(with_reducible refine (impl_in.calls (a0.size:Int) 1 8 false _ A2.out).mono ?_);rintro e w' ⟨rfl,⟨nd,rfl⟩⟩;refine ⟨_,rfl,?_⟩))
  go_ret
  exact ⟨qz8,qz7⟩

/-! ### impl_TrmCell_ok: function 34 -/
def impl_TrmCell_ok.f (a0_0:Int) (a0_1:Int) (a0_2:ByteArray):Option (Bool):=if a0_0=1 then ((impl_in.f a0_1 0 99999).bind fun t142=>(if t142=true then (some (a0_2.toList == ([]:List UInt8))) else (some false))) else (if a0_0=2 then ((impl_in.f a0_1 (-9999) 9999).bind fun t143=>(if t143=true then (some (a0_2.toList == ([]:List UInt8))) else (some false))) else (if a0_0=3 then ((impl_in.f a0_1 0 3).bind fun t144=>(if t144=true then ((impl_nameOk.f a0_2).bind fun t145=>(some t145)) else (some false))) else (some false)))
set_option maxHeartbeats 8000000 in
set_option maxRecDepth 100000 in
theorem impl_TrmCell_ok.calls (a0_0:Int) (a0_1:Int) (a0_2:ByteArray) (r:Bool) (w:World) (h:impl_TrmCell_ok.f a0_0 a0_1 a0_2=some r) :
  Calls Tryd.prog 34 #[.agg #[.int .i64 a0_0,.int .i64 a0_1,.string a0_2]] w fun e w'=>e = .returned (.bool r)∧Below w.heap.size w w':=by
 have hu34:=Tryd.underlying34
 have HB:=Aside0.mk (Below.refl w.heap.size w)
 have H:(if a0_0=1 then ((impl_in.f a0_1 0 99999).bind fun t142=>(if t142=true then (some (a0_2.toList == ([]:List UInt8))) else (some false))) else (if a0_0=2 then ((impl_in.f a0_1 (-9999) 9999).bind fun t143=>(if t143=true then (some (a0_2.toList == ([]:List UInt8))) else (some false))) else (if a0_0=3 then ((impl_in.f a0_1 0 3).bind fun t144=>(if t144=true then ((impl_nameOk.f a0_2).bind fun t145=>(some t145)) else (some false))) else (some false))))=some r:=h
 clear h
 by_cases c2:a0_0=1
 ·rw [if_pos c2] at H
  have c2b0:(a0_0 == 1)=true:=beq_iff_eq.mpr c2
  have c2b1:(a0_0 != 1)=false:=bne_eq_false_iff_eq.mpr c2
  clear c2
  replace H:=Option.bind_eq_some_iff.mp H
  obtain ⟨t142,A30,H⟩:=H
  try dsimp only at H
  have A3:=Aside0.mk A30
  clear A30
  by_cases c4:t142=true
  ·subst c4
   have H1:(some (a0_2.toList == ([]:List UInt8)))=some r:=qz35
   clear H
   have H:=H1
   clear H1
   obtain rfl:=Option.some.inj H
   go_enter Tryd.func34,Tryd.ntmps34
   go_wp2_with (first|((with_reducible refine gate_dst (N:=1) rfl ?_);refine box_event ?hg (N:=1) ?hd (cs:=#[.int .i64 a0_0,.int .i64 a0_1,.string a0_2]) (t:=34) ?hr ?_;(case hd=>rfl);(case hg=>rfl);(case hr=>first|(go_simp;done)|(go_simp;rfl));intro gb141 hg w5 hbox hb;have n0_:=Aside0.mk (below_step qz4 hb);have n1_:=Aside0.mk (hbox);have n2_:=Aside0.mk ((by rw [hg];exact (below_size qz4):w.heap.size≤gb141));have n3_:=Aside0.mk ((by rw [hg];exact (below_size qz4):w.heap.size≤gb141));clear HB;have HB:=n0_;have BK141:=n1_;have GW141:=n2_;have GE141:=n3_;clear n0_ n1_ n2_ n3_ hb hbox hg;have hcz6_0:w5.cell? ⟨gb141,0,none⟩=some (.int .i64 a0_0):=(blk_cell BK141.out 0).trans rfl;have hcz6_1:w5.cell? ⟨gb141,1,none⟩=some (.int .i64 a0_1):=(blk_cell BK141.out 1).trans rfl;have hcz6_2:w5.cell? ⟨gb141,2,none⟩=some (.string a0_2):=(blk_cell BK141.out 2).trans rfl;have hfz6_0:=blk_frozen BK141.out 0;have hfz6_1:=blk_frozen BK141.out 1;have hfz6_2:=blk_frozen BK141.out 2)|((with_reducible refine gate_callee (f:=35) rfl ?_);refine goesL_ (some 9) rfl rfl Tryd.func35 (by kernel_rfl) rfl #[.int .i64 a0_1,.int .i64 0,.int .i64 99999] rfl qz5 ?_;(with_reducible refine (impl_in.calls a0_1 0 99999 true _ A3.out).mono ?_);rintro e w' ⟨rfl,⟨nd,rfl⟩⟩;refine ⟨_,rfl,?_⟩))
   go_ret
   exact ⟨qz8,qz21⟩
  ·replace c4:=Bool.eq_false_iff.mpr c4
   subst c4
   have H1:(some false)=some r:=qz22
   clear H
   have H:=H1
   clear H1
   obtain rfl:=Option.some.inj H
   go_enter Tryd.func34,Tryd.ntmps34
   go_wp2_with (first|((with_reducible refine gate_dst (N:=1) rfl ?_);refine box_event ?hg (N:=1) ?hd (cs:=#[.int .i64 a0_0,.int .i64 a0_1,.string a0_2]) (t:=34) ?hr ?_;(case hd=>rfl);(case hg=>rfl);(case hr=>first|(go_simp;done)|(go_simp;rfl));intro gb141 hg w7 hbox hb;have n0_:=Aside0.mk (below_step qz4 hb);have n1_:=Aside0.mk (hbox);have n2_:=Aside0.mk ((by rw [hg];exact (below_size qz4):w.heap.size≤gb141));have n3_:=Aside0.mk ((by rw [hg];exact (below_size qz4):w.heap.size≤gb141));clear HB;have HB:=n0_;have BK141:=n1_;have GW141:=n2_;have GE141:=n3_;clear n0_ n1_ n2_ n3_ hb hbox hg;have hcz8_0:w7.cell? ⟨gb141,0,none⟩=some (.int .i64 a0_0):=(blk_cell BK141.out 0).trans rfl;have hcz8_1:w7.cell? ⟨gb141,1,none⟩=some (.int .i64 a0_1):=(blk_cell BK141.out 1).trans rfl;have hcz8_2:w7.cell? ⟨gb141,2,none⟩=some (.string a0_2):=(blk_cell BK141.out 2).trans rfl;have hfz8_0:=blk_frozen BK141.out 0;have hfz8_1:=blk_frozen BK141.out 1;have hfz8_2:=blk_frozen BK141.out 2)|((with_reducible refine gate_callee (f:=35) rfl ?_);refine goesL_ (some 9) rfl rfl Tryd.func35 (by kernel_rfl) rfl #[.int .i64 a0_1,.int .i64 0,.int .i64 99999] rfl qz5 ?_;(with_reducible refine (impl_in.calls a0_1 0 99999 false _ A3.out).mono ?_);rintro e w' ⟨rfl,⟨nd,rfl⟩⟩;refine ⟨_,rfl,?_⟩))
   go_ret
   exact ⟨qz8,qz21⟩
 ·rw [if_neg c2] at H
  have c2b0:(a0_0 == 1)=false:=beq_eq_false_iff_ne.mpr c2
  have c2b1:(a0_0 != 1)=true:=bne_iff_ne.mpr c2
  by_cases c9:a0_0=2
  ·rw [if_pos c9] at H
   have c9b0:(a0_0 == 2)=true:=beq_iff_eq.mpr c9
   have c9b1:(a0_0 != 2)=false:=bne_eq_false_iff_eq.mpr c9
   clear c9
   replace H:=Option.bind_eq_some_iff.mp H
   obtain ⟨t143,A100,H⟩:=H
   try dsimp only at H
   have A10:=Aside0.mk A100
   clear A100
   by_cases c11:t143=true
   ·subst c11
    have H1:(some (a0_2.toList == ([]:List UInt8)))=some r:=qz35
    clear H
    have H:=H1
    clear H1
    obtain rfl:=Option.some.inj H
    go_enter Tryd.func34,Tryd.ntmps34
    go_wp2_with (first|((with_reducible refine gate_dst (N:=1) rfl ?_);refine box_event ?hg (N:=1) ?hd (cs:=#[.int .i64 a0_0,.int .i64 a0_1,.string a0_2]) (t:=34) ?hr ?_;(case hd=>rfl);(case hg=>rfl);(case hr=>first|(go_simp;done)|(go_simp;rfl));intro gb141 hg w12 hbox hb;have n0_:=Aside0.mk (below_step qz4 hb);have n1_:=Aside0.mk (hbox);have n2_:=Aside0.mk ((by rw [hg];exact (below_size qz4):w.heap.size≤gb141));have n3_:=Aside0.mk ((by rw [hg];exact (below_size qz4):w.heap.size≤gb141));clear HB;have HB:=n0_;have BK141:=n1_;have GW141:=n2_;have GE141:=n3_;clear n0_ n1_ n2_ n3_ hb hbox hg;have hcz13_0:w12.cell? ⟨gb141,0,none⟩=some (.int .i64 a0_0):=(blk_cell BK141.out 0).trans rfl;have hcz13_1:w12.cell? ⟨gb141,1,none⟩=some (.int .i64 a0_1):=(blk_cell BK141.out 1).trans rfl;have hcz13_2:w12.cell? ⟨gb141,2,none⟩=some (.string a0_2):=(blk_cell BK141.out 2).trans rfl;have hfz13_0:=blk_frozen BK141.out 0;have hfz13_1:=blk_frozen BK141.out 1;have hfz13_2:=blk_frozen BK141.out 2)|((with_reducible refine gate_callee (f:=35) rfl ?_);refine goesL_ (some 19) rfl rfl Tryd.func35 (by kernel_rfl) rfl #[.int .i64 a0_1,.int .i64 (-9999),.int .i64 9999] rfl qz5 ?_;(with_reducible refine (impl_in.calls a0_1 (-9999) 9999 true _ A10.out).mono ?_);rintro e w' ⟨rfl,⟨nd,rfl⟩⟩;refine ⟨_,rfl,?_⟩))
    go_ret
    exact ⟨qz8,qz21⟩
   ·replace c11:=Bool.eq_false_iff.mpr c11
    subst c11
    have H1:(some false)=some r:=qz22
    clear H
    have H:=H1
    clear H1
    obtain rfl:=Option.some.inj H
    go_enter Tryd.func34,Tryd.ntmps34
    go_wp2_with (first|((with_reducible refine gate_dst (N:=1) rfl ?_);refine box_event ?hg (N:=1) ?hd (cs:=#[.int .i64 a0_0,.int .i64 a0_1,.string a0_2]) (t:=34) ?hr ?_;(case hd=>rfl);(case hg=>rfl);(case hr=>first|(go_simp;done)|(go_simp;rfl));intro gb141 hg w14 hbox hb;have n0_:=Aside0.mk (below_step qz4 hb);have n1_:=Aside0.mk (hbox);have n2_:=Aside0.mk ((by rw [hg];exact (below_size qz4):w.heap.size≤gb141));have n3_:=Aside0.mk ((by rw [hg];exact (below_size qz4):w.heap.size≤gb141));clear HB;have HB:=n0_;have BK141:=n1_;have GW141:=n2_;have GE141:=n3_;clear n0_ n1_ n2_ n3_ hb hbox hg;have hcz15_0:w14.cell? ⟨gb141,0,none⟩=some (.int .i64 a0_0):=(blk_cell BK141.out 0).trans rfl;have hcz15_1:w14.cell? ⟨gb141,1,none⟩=some (.int .i64 a0_1):=(blk_cell BK141.out 1).trans rfl;have hcz15_2:w14.cell? ⟨gb141,2,none⟩=some (.string a0_2):=(blk_cell BK141.out 2).trans rfl;have hfz15_0:=blk_frozen BK141.out 0;have hfz15_1:=blk_frozen BK141.out 1;have hfz15_2:=blk_frozen BK141.out 2)|((with_reducible refine gate_callee (f:=35) rfl ?_);refine goesL_ (some 19) rfl rfl Tryd.func35 (by kernel_rfl) rfl #[.int .i64 a0_1,.int .i64 (-9999),.int .i64 9999] rfl qz5 ?_;(with_reducible refine (impl_in.calls a0_1 (-9999) 9999 false _ A10.out).mono ?_);rintro e w' ⟨rfl,⟨nd,rfl⟩⟩;refine ⟨_,rfl,?_⟩))
    go_ret
    exact ⟨qz8,qz21⟩
  ·rw [if_neg c9] at H
   have c9b0:(a0_0 == 2)=false:=beq_eq_false_iff_ne.mpr c9
   have c9b1:(a0_0 != 2)=true:=bne_iff_ne.mpr c9
   by_cases c16:a0_0=3
   ·rw [if_pos c16] at H
    have c16b0:(a0_0 == 3)=true:=beq_iff_eq.mpr c16
    have c16b1:(a0_0 != 3)=false:=bne_eq_false_iff_eq.mpr c16
    clear c16
    replace H:=Option.bind_eq_some_iff.mp H
    obtain ⟨t144,A170,H⟩:=H
    try dsimp only at H
    have A17:=Aside0.mk A170
    clear A170
    by_cases c18:t144=true
    ·subst c18
     have H1:((impl_nameOk.f a0_2).bind fun t145=>(some t145))=some r:=qz35
     clear H
     have H:=H1
     clear H1
     replace H:=Option.bind_eq_some_iff.mp H
     obtain ⟨t145,A190,H⟩:=H
     try dsimp only at H
     have A19:=Aside0.mk A190
     clear A190
     obtain rfl:=Option.some.inj H
     go_enter Tryd.func34,Tryd.ntmps34
     go_wp2_with (first|((with_reducible refine gate_dst (N:=1) rfl ?_);refine box_event ?hg (N:=1) ?hd (cs:=#[.int .i64 a0_0,.int .i64 a0_1,.string a0_2]) (t:=34) ?hr ?_;(case hd=>rfl);(case hg=>rfl);(case hr=>first|(go_simp;done)|(go_simp;rfl));intro gb141 hg w20 hbox hb;have n0_:=Aside0.mk (below_step qz4 hb);have n1_:=Aside0.mk (hbox);have n2_:=Aside0.mk ((by rw [hg];exact (below_size qz4):w.heap.size≤gb141));have n3_:=Aside0.mk ((by rw [hg];exact (below_size qz4):w.heap.size≤gb141));clear HB;have HB:=n0_;have BK141:=n1_;have GW141:=n2_;have GE141:=n3_;clear n0_ n1_ n2_ n3_ hb hbox hg;have hcz21_0:w20.cell? ⟨gb141,0,none⟩=some (.int .i64 a0_0):=(blk_cell BK141.out 0).trans rfl;have hcz21_1:w20.cell? ⟨gb141,1,none⟩=some (.int .i64 a0_1):=(blk_cell BK141.out 1).trans rfl;have hcz21_2:w20.cell? ⟨gb141,2,none⟩=some (.string a0_2):=(blk_cell BK141.out 2).trans rfl;have hfz21_0:=blk_frozen BK141.out 0;have hfz21_1:=blk_frozen BK141.out 1;have hfz21_2:=blk_frozen BK141.out 2)|((with_reducible refine gate_callee (f:=35) rfl ?_);refine goesL_ (some 29) rfl rfl Tryd.func35 (by kernel_rfl) rfl #[.int .i64 a0_1,.int .i64 0,.int .i64 3] rfl qz5 ?_;(with_reducible refine (impl_in.calls a0_1 0 3 true _ A17.out).mono ?_);rintro e w' ⟨rfl,⟨nd,rfl⟩⟩;refine ⟨_,rfl,?_⟩)|(go_at_call 54;(with_reducible refine (impl_nameOk.calls a0_2 t145 _ A19.out).mono ?_);rintro e w22 ⟨rfl,hb⟩;have n0_:=Aside0.mk (blk_below (g:=gb141) (o:=.cells #[.int .i64 a0_0,.int .i64 a0_1,.string a0_2] 34 (0,0)) (by (with_reducible repeat (first|refine blk_drewN ?_ _|refine blk_drew ?_|refine blk_alloc ?_ _));exact BK141.out) hb);have n1_:=Aside0.mk (below_step qz21 hb);clear BK141 HB;have BK141:=n0_;have HB:=n1_;clear n0_ n1_;(try clear hb);(try clear hb2);(try clear hk);(try clear hi)))
     go_ret
     exact ⟨qz8,qz21⟩
    ·replace c18:=Bool.eq_false_iff.mpr c18
     subst c18
     have H1:(some false)=some r:=qz22
     clear H
     have H:=H1
     clear H1
     obtain rfl:=Option.some.inj H
     go_enter Tryd.func34,Tryd.ntmps34
     go_wp2_with (first|((with_reducible refine gate_dst (N:=1) rfl ?_);refine box_event ?hg (N:=1) ?hd (cs:=#[.int .i64 a0_0,.int .i64 a0_1,.string a0_2]) (t:=34) ?hr ?_;(case hd=>rfl);(case hg=>rfl);(case hr=>first|(go_simp;done)|(go_simp;rfl));intro gb141 hg w23 hbox hb;have n0_:=Aside0.mk (below_step qz4 hb);have n1_:=Aside0.mk (hbox);have n2_:=Aside0.mk ((by rw [hg];exact (below_size qz4):w.heap.size≤gb141));have n3_:=Aside0.mk ((by rw [hg];exact (below_size qz4):w.heap.size≤gb141));clear HB;have HB:=n0_;have BK141:=n1_;have GW141:=n2_;have GE141:=n3_;clear n0_ n1_ n2_ n3_ hb hbox hg;have hcz24_0:w23.cell? ⟨gb141,0,none⟩=some (.int .i64 a0_0):=(blk_cell BK141.out 0).trans rfl;have hcz24_1:w23.cell? ⟨gb141,1,none⟩=some (.int .i64 a0_1):=(blk_cell BK141.out 1).trans rfl;have hcz24_2:w23.cell? ⟨gb141,2,none⟩=some (.string a0_2):=(blk_cell BK141.out 2).trans rfl;have hfz24_0:=blk_frozen BK141.out 0;have hfz24_1:=blk_frozen BK141.out 1;have hfz24_2:=blk_frozen BK141.out 2)|((with_reducible refine gate_callee (f:=35) rfl ?_);refine goesL_ (some 29) rfl rfl Tryd.func35 (by kernel_rfl) rfl #[.int .i64 a0_1,.int .i64 0,.int .i64 3] rfl qz5 ?_;(with_reducible refine (impl_in.calls a0_1 0 3 false _ A17.out).mono ?_);rintro e w' ⟨rfl,⟨nd,rfl⟩⟩;refine ⟨_,rfl,?_⟩))
     go_ret
     exact ⟨qz8,qz21⟩
   ·rw [if_neg c16] at H
    have c16b0:(a0_0 == 3)=false:=beq_eq_false_iff_ne.mpr c16
    have c16b1:(a0_0 != 3)=true:=bne_iff_ne.mpr c16
    obtain rfl:=Option.some.inj H
    go_enter Tryd.func34,Tryd.ntmps34
    go_wp2_with (first|((with_reducible refine gate_dst (N:=1) rfl ?_);refine box_event ?hg (N:=1) ?hd (cs:=#[.int .i64 a0_0,.int .i64 a0_1,.string a0_2]) (t:=34) ?hr ?_;(case hd=>rfl);(case hg=>rfl);(case hr=>first|(go_simp;done)|(go_simp;rfl));intro gb141 hg w25 hbox hb;have n0_:=Aside0.mk (below_step qz4 hb);have n1_:=Aside0.mk (hbox);have n2_:=Aside0.mk ((by rw [hg];exact (below_size qz4):w.heap.size≤gb141));have n3_:=Aside0.mk ((by rw [hg];exact (below_size qz4):w.heap.size≤gb141));clear HB;have HB:=n0_;have BK141:=n1_;have GW141:=n2_;have GE141:=n3_;clear n0_ n1_ n2_ n3_ hb hbox hg;have hcz26_0:w25.cell? ⟨gb141,0,none⟩=some (.int .i64 a0_0):=(blk_cell BK141.out 0).trans rfl;have hcz26_1:w25.cell? ⟨gb141,1,none⟩=some (.int .i64 a0_1):=(blk_cell BK141.out 1).trans rfl;have hcz26_2:w25.cell? ⟨gb141,2,none⟩=some (.string a0_2):=(blk_cell BK141.out 2).trans rfl;have hfz26_0:=blk_frozen BK141.out 0;have hfz26_1:=blk_frozen BK141.out 1;have hfz26_2:=blk_frozen BK141.out 2))
    go_ret
    exact ⟨qz8,qz21⟩

end Go.Proofs.YtibencknfheplaaDoor.P
