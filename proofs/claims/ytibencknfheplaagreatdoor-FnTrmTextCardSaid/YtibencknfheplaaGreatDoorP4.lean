/- Contracts of functions of the program: each as a Lean function, and that its call does what that says; printed by cprint.py (this session) over print.py of the kit. Conditions: the hypotheses of each theorem. -/
import Derived.Test.YtibencknfheplaaGreatDoorVZ
import Derived.Test.YtibencknfheplaaGreatDoorP0
import Derived.Test.YtibencknfheplaaGreatDoorP3
namespace Go.Proofs.YtibencknfheplaaGreatDoor.P
open Go.RowKit Go.Proofs.YtibencknfheplaaGreatDoorW.PrintWords Go.Proofs.YtibencknfheplaaGreatDoorW.PrintLast Go.Proofs.YtibencknfheplaaGreatDoorW.PrintMore
attribute [local go_sem] max2_int min2_int max_two min_two max_three min_three max_four min_four   -- for this text's walks alone
set_option linter.unusedVariables false
set_option linter.unusedSimpArgs false

/-! ### spec_TrmText: function 9 -/
mutual
def spec_TrmText.l0:Nat→List (S43)→ByteArray→List Int→Int→Option (ByteArray)
 | 0,_,_,_,_=>none
 | k+1,x0,x3,x4,x5=>if x5<(x0.length:Int) then (if 0≤x5 then ((spec_l1Word.f k ((rd_T43 x0 x5).f0) ((rd_T43 x0 x5).f1) ((rd_T43 x0 x5).f2)).bind fun t243=>(if x3.size+t243.size≤9223372036854775807 then (if ((rd_T43 x0 x5).f0)=3 then (spec_TrmText.j1 k x0 (x3++t243) x4 x5 (decide (((rd_T43 x0 x5).f1) > 0))) else (spec_TrmText.j1 k x0 (x3++t243) x4 x5 false)) else (none))) else (none)) else (some x3)
def spec_TrmText.j1:Nat→List (S43)→ByteArray→List Int→Int→Bool→Option (ByteArray)
 | 0,_,_,_,_,_=>none
 | k+1,x0,x3,x4,x5,x36=>if x36=true then (if x3.size+1≤9223372036854775807 then (if 0≤x5 then (if x5<(x0.length:Int) then (if x4.length<17592186044416 then (spec_TrmText.l0 k x0 (x3++(⟨#[40]⟩:ByteArray)) (x4++[(rd_T43 x0 x5).f1]) (wrap64 (x5+1))) else (none)) else (none)) else (none)) else (none)) else (spec_TrmText.l1 k x0 x3 x4 x5)
def spec_TrmText.l1:Nat→List (S43)→ByteArray→List Int→Int→Option (ByteArray)
 | 0,_,_,_,_=>none
 | k+1,x0,x3,x4,x5=>if (x4.length:Int) > 0 then (if 0≤(wrap64 ((x4.length:Int) - 1)) then (if (wrap64 ((x4.length:Int) - 1))<(x4.length:Int) then (if (rd x4 (wrap64 ((x4.length:Int) - 1)))=1 then (if x3.size+1≤9223372036854775807 then (if (wrap64 ((x4.length:Int) - 1))≤(x4.length:Int) then (spec_TrmText.l1 k x0 (x3++(⟨#[41]⟩:ByteArray)) (x4.take ((wrap64 ((x4.length:Int) - 1)):Int).toNat) x5) else (none)) else (none)) else (if x3.size+1≤9223372036854775807 then (spec_TrmText.l0 k x0 (x3++(⟨#[44]⟩:ByteArray)) (x4.set ((wrap64 ((x4.length:Int) - 1)):Int).toNat (wrap64 ((rd x4 (wrap64 ((x4.length:Int) - 1))) - 1))) (wrap64 (x5+1))) else (none))) else (none)) else (none)) else (spec_TrmText.l0 k x0 x3 x4 (wrap64 (x5+1)))
end
def spec_TrmText.f (k:Nat) (l0:List (S43)):Option (ByteArray):=(spec_TrmOk.f k l0).bind fun t238=>(if t238=true then (spec_TrmText.l0 k l0 (⟨#[]⟩:ByteArray) (([]:List Int)) 0) else (some (⟨#[]⟩:ByteArray)))
set_option maxHeartbeats 8000000 in
set_option maxRecDepth 100000 in
theorem spec_TrmText.calls (k:Nat) (A0:Option Addr) (c0:Nat) (l0:List (S43)) (r:ByteArray) (w:World) (hr0:Kd.C k43 w A0 l0.length l0) (hc0:l0.length≤c0) (h:spec_TrmText.f k l0=some r) :
  Calls Tryz.prog 9 #[.slice A0 l0.length c0] w fun e w'=>e = .returned (.string r)∧Below w.heap.size w w':=by
 have hu43:=Tryz.underlying43
 have HR0:=Aside0.mk hr0
 have HC0:=Aside0.mk hc0
 clear hr0 hc0
 have HB:=Aside0.mk (Below.refl w.heap.size w)
 have H:((spec_TrmOk.f k l0).bind fun t238=>(if t238=true then (spec_TrmText.l0 k l0 (⟨#[]⟩:ByteArray) (([]:List Int)) 0) else (some (⟨#[]⟩:ByteArray))))=some r:=h
 clear h
 replace H:=Option.bind_eq_some_iff.mp H
 obtain ⟨t238,A20,H⟩:=H
 try dsimp only at H
 have A2:=Aside0.mk A20
 clear A20
 by_cases c3:t238=true
 ·subst c3
  have H1:(spec_TrmText.l0 k l0 (⟨#[]⟩:ByteArray) (([]:List Int)) 0)=some r:=qz42
  clear H
  have H:=H1
  clear H1
  obtain ⟨y239,hy239⟩:∃ y_:List Int,y_=(([]:List Int)):=⟨_,rfl⟩
  replace H:(spec_TrmText.l0 k l0 (⟨#[]⟩:ByteArray) y239 0)=some r:=by first|(rw [hy239];exact H)|exact H
  have Ny239:=Aside0.mk hy239
  clear hy239
  have H':=Aside0.mk H
  clear H
  go_enter Tryz.func9,Tryz.ntmps9
  go_wp2_with (first|((with_reducible refine gate_callee (f:=12) rfl ?_);refine goesL_ (some 7) rfl rfl Tryz.func12 (by kernel_rfl) rfl #[.slice A0 l0.length c0] rfl qz4 ?_;(with_reducible refine (spec_TrmOk.calls k _ _ l0 true _ ?side1 ?side2 A2.out).mono ?_);(case side1=>exact qz76);(case side2=>exact HC0.out);rintro e w4 ⟨rfl,hb⟩;refine ⟨_,rfl,?_⟩;have n0_:=Aside0.mk (below_step qz5 hb);clear HB;have HB:=n0_;clear n0_;(try clear hb);(try clear hb2);(try clear hk);(try clear hi))|((with_reducible refine gate_dst (N:=9) rfl ?_);(try (refine gate_guard (by rfl) ?_;dsimp only));refine Kd.R_lit (Kd.int .i64) _ 3 ?hg (N:=9) ?hd (xs:=([]:List Int)) (inner:=[]) (ok:=fun _=>True) (okp:=fun _=>True) ?hr ?hp (fun _ hk=>hk) trivial (Below.refl _ _) (Nat.le_refl _) (by simp) ?_;(case hd=>rfl);(case hg=>rfl);(case hr=>first|(go_simp;done)|(go_simp;rfl));(case hp=>exact (Reps.none _ _));intro v240 w5 ho6 hb hg_ hnew_;clear hg_ hnew_;(first|rw [← Ny239.out] at ho6|(simp only [Int.reduceToNat] at ho6;rw [← Ny239.out] at ho6));have n0_:=Aside0.mk (Kd.R_lower ho6 (below_size qz5));have n1_:=Aside0.mk (below_step qz5 hb);clear HB;have HO241:=n0_;have HB:=n1_;clear n0_ n1_ hb ho6))
  go_loopg [3,4,5] k (fun kq v3 v4 v5 w'=>∃ (x3_1:ByteArray) (x4_1:List Int) (x5_1:Int),v3 = .string x3_1∧v5 = .int .i64 x5_1∧Aside0 (spec_TrmText.l0 kq l0 x3_1 x4_1 x5_1=some r)∧Aside0 (kq≤k)∧Aside0 (Kd.R (Kd.int .i64) 3 w' w.heap.size (fun _=>True) v4 x4_1)∧Aside0 (Below w.heap.size w w'))
  case atStart=>exact ⟨((⟨#[]⟩:ByteArray)),(y239),(0),qz9,qz9,H',⟨Nat.le_refl _⟩,⟨by (with_reducible repeat (first|apply Kd.R_alloc|apply Kd.R_drewN|apply Kd.R_drew));exact HO241.out⟩,⟨qz7⟩⟩
  case round=>
   clear H'
   try clear c1
   try clear p2
   try clear c3
   obtain ⟨x3_1,x4_1,x5_1,rfl,rfl,HA,HK1,HO_4,HB⟩:=hrel
   cases gk with
   | zero=>exact absurd HA.out (by simp [spec_TrmText.l0])
   | succ k1=>
    have H:=HA.out
    clear HA
    simp only [spec_TrmText.l0] at H
    by_cases c7:x5_1<(l0.length:Int)
    ·rw [if_pos c7] at H
     have c7b0:decide (x5_1<(l0.length:Int))=true:=decide_eq_true c7
     clear c7
     by_cases c8:0≤x5_1
     ·rw [if_pos c8] at H
      have c8b0:decide (0≤x5_1)=true:=decide_eq_true c8
      clear c8
      replace H:=Option.bind_eq_some_iff.mp H
      obtain ⟨t243,A90,H⟩:=H
      try dsimp only at H
      have A9:=Aside0.mk A90
      clear A90
      by_cases c10:x3_1.size+t243.size≤9223372036854775807
      ·rw [if_pos c10] at H
       have c10b0:=eq_true c10
       have c10b1:decide (x3_1.size+t243.size≤9223372036854775807)=true:=decide_eq_true c10
       try have c10b2:(9223372036854775807<x3_1.size+t243.size)=False:=eq_false (Nat.not_lt.2 c10)
       have HC11:=Aside0.mk H
       clear H
       have p242:0≤(x5_1:Int):=of_decide_eq_true qz6
       have q242:x5_1<(l0.length:Int):=of_decide_eq_true qz6
       obtain ⟨ad242,e242,hx242_0,hx242_1,hx242_2⟩:=at_T43 HR0.out x5_1 p242 q242
       cases e242
       replace hx242_0:=(HB.out.cell (World.block_lt_of_cell? w _ hx242_0)).trans hx242_0
       replace hx242_1:=(HB.out.cell (World.block_lt_of_cell? w _ hx242_1)).trans hx242_1
       replace hx242_2:=(HB.out.cell (World.block_lt_of_cell? w _ hx242_2)).trans hx242_2
       replace p242:=eq_true p242
       replace q242:=eq_true q242
       go_upto_region 9 with (first|((with_reducible refine gate_callee (f:=22) rfl ?_);refine goesL_ (some 21) rfl rfl Tryz.func22 (by kernel_rfl) rfl #[.agg #[.int .i64 ((rd_T43 l0 x5_1).f0),.int .i64 ((rd_T43 l0 x5_1).f1),.string ((rd_T43 l0 x5_1).f2)]] rfl qz4 ?_;(with_reducible refine (spec_l1Word.calls k1 ((rd_T43 l0 x5_1).f0) ((rd_T43 l0 x5_1).f1) ((rd_T43 l0 x5_1).f2) t243 _ A9.out).mono ?_);rintro e w12 ⟨rfl,hb⟩;refine ⟨_,rfl,?_⟩;have n0_:=Aside0.mk (Kd.R_below qz15 hb);have n1_:=Aside0.mk (below_step qz5 hb);clear HO_4 HB;have HO_4:=n0_;have HB:=n1_;clear n0_ n1_;(try clear hb);(try clear hb2);(try clear hk);(try clear hi)))
       (try simp only [Act.put,List.setIfInBounds_toArray,List.set_cons_zero,List.set_cons_succ])
       go_cut [36] (fun v36 wc=>∃ (kq:Nat) (x36_10:Bool),v36 = .bool x36_10∧Aside0 (spec_TrmText.j1 kq l0 (x3_1++t243) x4_1 x5_1 x36_10=some r)∧Aside0 (kq≤k1)∧Aside0 (Kd.R (Kd.int .i64) 3 wc w.heap.size (fun _=>True) u4 x4_1)∧Aside0 (Below w.heap.size w wc))
       case first=>
        have H:=HC11.out
        clear HC11
        by_cases c13:((rd_T43 l0 x5_1).f0)=3
        ·rw [if_pos c13] at H
         have c13b0:(((rd_T43 l0 x5_1).f0) == 3)=true:=beq_iff_eq.mpr c13
         have c13b1:(((rd_T43 l0 x5_1).f0) != 3)=false:=bne_eq_false_iff_eq.mpr c13
         clear c13
         (first|rw [c13b0]|rw [c13b1]|(simp only [i64_w,i32_w];rw [c13b0])|skip)
         have H':=Aside0.mk H
         clear H
         have p244:0≤(x5_1:Int):=of_decide_eq_true qz6
         have q244:x5_1<(l0.length:Int):=of_decide_eq_true qz6
         obtain ⟨ad244,e244,hx244_0,hx244_1,hx244_2⟩:=at_T43 HR0.out x5_1 p244 q244
         obtain rfl:ad242=ad244:=(by injection e244)
         replace hx244_0:=(HB.out.cell (World.block_lt_of_cell? w _ hx244_0)).trans hx244_0
         replace hx244_1:=(HB.out.cell (World.block_lt_of_cell? w _ hx244_1)).trans hx244_1
         replace hx244_2:=(HB.out.cell (World.block_lt_of_cell? w _ hx244_2)).trans hx244_2
         replace p244:=eq_true p244
         replace q244:=eq_true q244
         have p245:0≤(x5_1:Int):=of_decide_eq_true qz6
         have q245:x5_1<(l0.length:Int):=of_decide_eq_true qz6
         obtain ⟨ad245,e245,hx245_0,hx245_1,hx245_2⟩:=at_T43 HR0.out x5_1 p245 q245
         obtain rfl:ad242=ad245:=(by injection e245)
         replace hx245_0:=(HB.out.cell (World.block_lt_of_cell? w _ hx245_0)).trans hx245_0
         replace hx245_1:=(HB.out.cell (World.block_lt_of_cell? w _ hx245_1)).trans hx245_1
         replace hx245_2:=(HB.out.cell (World.block_lt_of_cell? w _ hx245_2)).trans hx245_2
         replace p245:=eq_true p245
         replace q245:=eq_true q245
         go_wp2
         go_meet
         case rel=>exact ⟨_,(decide (((rd_T43 l0 x5_1).f1) > 0)),qz9,H',⟨qz48⟩,⟨qz15⟩,⟨qz7⟩⟩
        ·rw [if_neg c13] at H
         have c13b0:(((rd_T43 l0 x5_1).f0) == 3)=false:=beq_eq_false_iff_ne.mpr c13
         have c13b1:(((rd_T43 l0 x5_1).f0) != 3)=true:=bne_iff_ne.mpr c13
         (first|rw [c13b0]|rw [c13b1]|(simp only [i64_w,i32_w];rw [c13b0])|skip)
         have H':=Aside0.mk H
         clear H
         have p244:0≤(x5_1:Int):=of_decide_eq_true qz6
         have q244:x5_1<(l0.length:Int):=of_decide_eq_true qz6
         obtain ⟨ad244,e244,hx244_0,hx244_1,hx244_2⟩:=at_T43 HR0.out x5_1 p244 q244
         obtain rfl:ad242=ad244:=(by injection e244)
         replace hx244_0:=(HB.out.cell (World.block_lt_of_cell? w _ hx244_0)).trans hx244_0
         replace hx244_1:=(HB.out.cell (World.block_lt_of_cell? w _ hx244_1)).trans hx244_1
         replace hx244_2:=(HB.out.cell (World.block_lt_of_cell? w _ hx244_2)).trans hx244_2
         replace p244:=eq_true p244
         replace q244:=eq_true q244
         go_wp2
         go_meet
         case rel=>exact ⟨_,(false),qz9,H',⟨qz48⟩,⟨qz15⟩,⟨qz7⟩⟩
       case rest=>
        clear HC11
        try clear c1
        try clear c2
        try clear p2
        try clear q2
        try clear hx2
        try clear c3
        try clear c7
        try clear c7b0
        try clear c8
        try clear c8b0
        try clear c9
        try clear c10
        try clear c10b0
        try clear c10b1
        try clear c10b2
        try clear c12
        try clear c13
        try clear c13b0
        try clear c13b1
        try clear hx242_0
        try clear hx242_1
        try clear hx242_2
        try clear hx244_0
        try clear hx244_1
        try clear hx244_2
        try clear hx245_0
        try clear hx245_1
        try clear hx245_2
        try clear p2
        try clear p242
        try clear p244
        try clear p245
        try clear q242
        try clear q244
        try clear q245
        obtain ⟨kq,x36_10,rfl,HA,HJ10,HO_4,HB⟩:=hcut
        cases kq with
        | zero=>exact absurd HA.out (by simp [spec_TrmText.j1])
        | succ kj10=>
         have H:=HA.out
         clear HA
         simp only [spec_TrmText.j1] at H
         by_cases c14:x36_10=true
         ·subst c14
          have H1:(if (x3_1++t243).size+1≤9223372036854775807 then (if 0≤x5_1 then (if x5_1<(l0.length:Int) then (if x4_1.length<17592186044416 then (spec_TrmText.l0 kj10 l0 ((x3_1++t243)++(⟨#[40]⟩:ByteArray)) (x4_1++[(rd_T43 l0 x5_1).f1]) (wrap64 (x5_1+1))) else (none)) else (none)) else (none)) else (none))=some r:=qz42
          clear H
          have H:=H1
          clear H1
          by_cases c15:(x3_1++t243).size+1≤9223372036854775807
          ·rw [if_pos c15] at H
           have c15b0:=eq_true c15
           have c15b1:decide ((x3_1++t243).size+1≤9223372036854775807)=true:=decide_eq_true c15
           try (have c15b1s:=c15b1;simp only [ByteArray.size_append] at c15b1s)
           try have c15b2:(9223372036854775807<(x3_1++t243).size+1)=False:=eq_false (Nat.not_lt.2 c15)
           try (have c15b2s:=c15b2;simp only [ByteArray.size_append] at c15b2s)
           by_cases c16:0≤x5_1
           ·rw [if_pos c16] at H
            have c16b0:decide (0≤x5_1)=true:=decide_eq_true c16
            clear c16
            by_cases c17:x5_1<(l0.length:Int)
            ·rw [if_pos c17] at H
             have c17b0:decide (x5_1<(l0.length:Int))=true:=decide_eq_true c17
             clear c17
             by_cases c18:x4_1.length<17592186044416
             ·rw [if_pos c18] at H
              have LMc18:=Aside0.mk c18
              clear c18
              obtain ⟨y247,hy247⟩:∃ y_:List Int,y_=(x4_1++[(rd_T43 l0 x5_1).f1]):=⟨_,rfl⟩
              replace H:(spec_TrmText.l0 kj10 l0 ((x3_1++t243)++(⟨#[40]⟩:ByteArray)) y247 (wrap64 (x5_1+1)))=some r:=by first|(rw [hy247];exact H)|exact H
              have Ny247:=Aside0.mk hy247
              clear hy247
              have H':=Aside0.mk H
              clear H
              have p246:0≤(x5_1:Int):=of_decide_eq_true qz6
              have q246:x5_1<(l0.length:Int):=of_decide_eq_true qz6
              obtain ⟨ad246,e246,hx246_0,hx246_1,hx246_2⟩:=at_T43 HR0.out x5_1 p246 q246
              obtain rfl:ad242=ad246:=(by injection e246)
              replace hx246_0:=(HB.out.cell (World.block_lt_of_cell? w _ hx246_0)).trans hx246_0
              replace hx246_1:=(HB.out.cell (World.block_lt_of_cell? w _ hx246_1)).trans hx246_1
              replace hx246_2:=(HB.out.cell (World.block_lt_of_cell? w _ hx246_2)).trans hx246_2
              replace p246:=eq_true p246
              replace q246:=eq_true q246
              go_wp2_with (first|((with_reducible refine gate_builtin (b:=.append) (xs:=#[.tmp 39,.tmp 45]) rfl ?_);(try (refine gate_guard (by rfl) ?_;dsimp only));at_builtin;refine Kd.R_append (Kd.int .i64) (w0:=w) w.heap.size rfl (.tmp 39) (.tmp 45) 41 3 (.int .i64 0) 8 rfl Tryz.underlying41 info3 rfl (by decide) (by omega) u4 x4_1 ((rd_T43 l0 x5_1).f1) [.int .i64 ((rd_T43 l0 x5_1).f1)] (fun _=>True) (fun _=>False) rfl rfl ?aP (fun _ hk=>hk.elim) ?aF ?aO ?aB ?aS ?aL ?_;(case aP=>exact rfl);(case aB=>exact qz5);(case aF=>exact (fun _ _=>trivial));(case aO=>exact qz15);(case aS=>exact (below_size qz5));(case aL=>have:=LMc18.out;omega);intro v248 w19 ho hb hg hat;rw [← Ny247.out] at ho;have n0_:=Aside0.mk (hb);have n1_:=Aside0.mk (ho);clear HB HO_4;have HB:=n0_;have HO249:=n1_;clear n0_ n1_ ho hb hg hat))
              go_roundg kj10
              case measure=>have:=HK1.out;have:=HJ10.out;omega
              case rel=>exact ⟨((x3_1++t243)++(⟨#[40]⟩:ByteArray)),(y247),(wrap64 (x5_1+1)),qz9,qz9,H',⟨by have:=HK1.out;have:=HJ10.out;omega⟩,⟨by (with_reducible repeat (first|apply Kd.R_alloc|apply Kd.R_drewN|apply Kd.R_drew));exact HO249.out⟩,⟨qz7⟩⟩
             ·rw [if_neg c18] at H
              exact absurd H (by simp)
            ·rw [if_neg c17] at H
             exact absurd H (by simp)
           ·rw [if_neg c16] at H
            exact absurd H (by simp)
          ·rw [if_neg c15] at H
           exact absurd H (by simp)
         ·replace c14:=Bool.eq_false_iff.mpr c14
          subst c14
          have H1:(spec_TrmText.l1 kj10 l0 (x3_1++t243) x4_1 x5_1)=some r:=qz26
          clear H
          have H:=H1
          clear H1
          have H':=Aside0.mk H
          clear H
          go_wp2
          go_loopg [3,4] kj10 (fun kq v3 v4 w'=>∃ (x3_3:ByteArray) (x4_3:List Int),v3 = .string x3_3∧Aside0 (spec_TrmText.l1 kq l0 x3_3 x4_3 x5_1=some r)∧Aside0 (kq≤kj10)∧Aside0 (Kd.R (Kd.int .i64) 3 w' w.heap.size (fun _=>True) v4 x4_3)∧Aside0 (Below w.heap.size w w'))
          case atStart=>exact ⟨((x3_1++t243)),(x4_1),qz9,H',⟨Nat.le_refl _⟩,⟨qz15⟩,⟨qz7⟩⟩
          case round=>
           clear H'
           try clear c1
           try clear c2
           try clear p2
           try clear q2
           try clear hx2
           try clear c3
           try clear p6
           try clear c7
           try clear c7b0
           try clear c8
           try clear c8b0
           try clear c9
           try clear c10
           try clear c10b0
           try clear c10b1
           try clear c10b2
           try clear c12
           try clear c13
           try clear c13b0
           try clear c13b1
           try clear c14
           try clear c15
           try clear c15b0
           try clear c15b1
           try clear c15b2
           try clear c16
           try clear c16b0
           try clear c17
           try clear c17b0
           try clear c18
           try clear hx242_0
           try clear hx242_1
           try clear hx242_2
           try clear hx244_0
           try clear hx244_1
           try clear hx244_2
           try clear hx245_0
           try clear hx245_1
           try clear hx245_2
           try clear hx246_0
           try clear hx246_1
           try clear hx246_2
           try clear p2
           try clear p242
           try clear p244
           try clear p245
           try clear p246
           try clear q2
           try clear q242
           try clear q244
           try clear q245
           try clear q246
           obtain ⟨x3_3,x4_3,rfl,HA,HK3,HO_4,HB⟩:=hrel
           cases gk with
           | zero=>exact absurd HA.out (by simp [spec_TrmText.l1])
           | succ k3=>
            have H:=HA.out
            clear HA
            simp only [spec_TrmText.l1] at H
            by_cases c20:(x4_3.length:Int) > 0
            ·rw [if_pos c20] at H
             have c20b0:decide (0<(x4_3.length:Int))=true:=decide_eq_true c20
             have c20b1:decide (0<x4_3.length)=true:=decide_eq_true (by omega)
             clear c20
             obtain ⟨ji21,hji21⟩:∃ j_:Int,(wrap64 ((x4_3.length:Int) - 1))=j_:=⟨_,rfl⟩
             replace H:(if 0≤(ji21) then (if (ji21)<(x4_3.length:Int) then (if (rd x4_3 (ji21))=1 then (if x3_3.size+1≤9223372036854775807 then (if (ji21)≤(x4_3.length:Int) then (spec_TrmText.l1 k3 l0 (x3_3++(⟨#[41]⟩:ByteArray)) (x4_3.take ((ji21):Int).toNat) x5_1) else (none)) else (none)) else (if x3_3.size+1≤9223372036854775807 then (spec_TrmText.l0 k3 l0 (x3_3++(⟨#[44]⟩:ByteArray)) (x4_3.set ((ji21):Int).toNat (wrap64 ((rd x4_3 (ji21)) - 1))) (wrap64 (x5_1+1))) else (none))) else (none)) else (none))=some r:=by first|(rw [hji21] at H;exact H)|(simp only [hji21] at H ⊢;exact H)
             have hji21w:(IntKind.i64.wrap ((x4_3.length:Int) - 1))=ji21:=(i64_w _).trans hji21
             by_cases c22:0≤(ji21)
             ·rw [if_pos c22] at H
              have c22b0:decide (0≤(ji21))=true:=decide_eq_true c22
              clear c22
              by_cases c23:(ji21)<(x4_3.length:Int)
              ·rw [if_pos c23] at H
               have c23b0:decide ((ji21)<(x4_3.length:Int))=true:=decide_eq_true c23
               clear c23
               by_cases c24:(rd x4_3 (ji21))=1
               ·rw [if_pos c24] at H
                have c24b0:((rd x4_3 (ji21)) == 1)=true:=beq_iff_eq.mpr c24
                have c24b1:((rd x4_3 (ji21)) != 1)=false:=bne_eq_false_iff_eq.mpr c24
                clear c24
                by_cases c25:x3_3.size+1≤9223372036854775807
                ·rw [if_pos c25] at H
                 have c25b0:=eq_true c25
                 have c25b1:decide (x3_3.size+1≤9223372036854775807)=true:=decide_eq_true c25
                 try have c25b2:(9223372036854775807<x3_3.size+1)=False:=eq_false (Nat.not_lt.2 c25)
                 by_cases c26:(ji21)≤(x4_3.length:Int)
                 ·rw [if_pos c26] at H
                  have c26b0:=eq_true c26
                  have c26b1:decide ((ji21)≤(x4_3.length:Int))=true:=decide_eq_true c26
                  clear c26
                  obtain ⟨y251,hy251⟩:∃ y_:List Int,y_=(x4_3.take ((ji21):Int).toNat):=⟨_,rfl⟩
                  replace H:(spec_TrmText.l1 k3 l0 (x3_3++(⟨#[41]⟩:ByteArray)) y251 x5_1)=some r:=by first|(rw [hy251];exact H)|exact H
                  have Ny251:=Aside0.mk hy251
                  clear hy251
                  have H':=Aside0.mk H
                  clear H
                  obtain ⟨Ao27,co27,eo27⟩:=Kd.R_slice HO_4.out
                  subst eo27
                  have p250:0≤((ji21):Int):=of_decide_eq_true qz6
                  have q250:(ji21)<(x4_3.length:Int):=of_decide_eq_true qz6
                  obtain ⟨ad250,e250,hx250_0⟩:=Kd.at_int (Kd.R_reads' HO_4.out).2.2 (ji21) p250 q250
                  cases e250
                  replace p250:=eq_true p250
                  replace q250:=eq_true q250
                  have q28:((ji21):Int)≤((x4_3.length:Int):Int):=of_decide_eq_true qz6
                  obtain ⟨i028,hi028,_,hsz28,_⟩:=info_parts info3
                  have hcut28:=cut_to (P:=Tryz.prog) 41 3 .i64 Tryz.underlying41 hi028 (some ad250) x4_3.length co27 (ji21) (of_decide_eq_true qz6) q28 (Kd.R_reads' HO_4.out).2.1
                  have hr28:=Kd.R_take (m:=((ji21):Int).toNat) HO_4.out (by omega)
                  have hy28:y251.length=((ji21):Int).toNat:=(by rw [Ny251.out,List.length_take];omega)
                  rw [← Ny251.out] at hr28
                  rw [← hy28] at hr28 hcut28
                  clear hy28 hi028 hsz28 HO_4
                  have HO253:=Aside0.mk hr28
                  clear hr28
                  replace q28:=eq_true q28
                  go_wp2
                  go_roundg k3
                  case measure=>have:=HK1.out;have:=HJ10.out;have:=HK3.out;omega
                  case rel=>exact ⟨(x3_3++(⟨#[41]⟩:ByteArray)),(y251),qz9,H',⟨qz80⟩,⟨by (with_reducible repeat (first|apply Kd.R_alloc|apply Kd.R_drewN|apply Kd.R_drew));exact HO253.out⟩,⟨qz7⟩⟩
                 ·rw [if_neg c26] at H
                  exact absurd H (by simp)
                ·rw [if_neg c25] at H
                 exact absurd H (by simp)
               ·rw [if_neg c24] at H
                have c24b0:((rd x4_3 (ji21)) == 1)=false:=beq_eq_false_iff_ne.mpr c24
                have c24b1:((rd x4_3 (ji21)) != 1)=true:=bne_iff_ne.mpr c24
                by_cases c29:x3_3.size+1≤9223372036854775807
                ·rw [if_pos c29] at H
                 have c29b0:=eq_true c29
                 have c29b1:decide (x3_3.size+1≤9223372036854775807)=true:=decide_eq_true c29
                 try have c29b2:(9223372036854775807<x3_3.size+1)=False:=eq_false (Nat.not_lt.2 c29)
                 obtain ⟨y255,hy255⟩:∃ y_:List Int,y_=(x4_3.set ((ji21):Int).toNat (wrap64 ((rd x4_3 (ji21)) - 1))):=⟨_,rfl⟩
                 replace H:(spec_TrmText.l0 k3 l0 (x3_3++(⟨#[44]⟩:ByteArray)) y255 (wrap64 (x5_1+1)))=some r:=by first|(rw [hy255];exact H)|exact H
                 have Ny255:=Aside0.mk hy255
                 clear hy255
                 have H':=Aside0.mk H
                 clear H
                 obtain ⟨Ao31,co31,eo31⟩:=Kd.R_slice HO_4.out
                 subst eo31
                 have p250:0≤((ji21):Int):=of_decide_eq_true qz6
                 have q250:(ji21)<(x4_3.length:Int):=of_decide_eq_true qz6
                 obtain ⟨ad250,e250,hx250_0⟩:=Kd.at_int (Kd.R_reads' HO_4.out).2.2 (ji21) p250 q250
                 cases e250
                 replace p250:=eq_true p250
                 replace q250:=eq_true q250
                 have p254:0≤((ji21):Int):=of_decide_eq_true qz6
                 have q254:(ji21)<(x4_3.length:Int):=of_decide_eq_true qz6
                 obtain ⟨ad254,e254,hx254_0⟩:=Kd.at_int (Kd.R_reads' HO_4.out).2.2 (ji21) p254 q254
                 obtain rfl:ad250=ad254:=(by injection e254)
                 replace p254:=eq_true p254
                 replace q254:=eq_true q254
                 have p30:0≤((ji21):Int):=of_decide_eq_true qz6
                 have q30:((ji21):Int)<((x4_3.length:Int):Int):=of_decide_eq_true qz6
                 obtain ⟨go30,co30,eo30,gb30,gl30,cl30,HG30⟩:=Kd.R_form HO_4.out (by omega)
                 (first|cases eo30|(injection eo30 with ea_ en_ ec_;(first|subst ea_|(injection ea_ with ea_;subst ea_));subst ec_;clear en_))
                 have GB30:=Aside0.mk gb30
                 have GG30:=Aside0.mk HG30
                 clear gb30 gl30 HG30
                 (first|simp only [add_plain] at hx250_0|skip)
                 (first|simp only [add_plain] at hx254_0|skip)
                 obtain ⟨hx30_0,hf30_0⟩:=Kd.R_celln 0 HO_4.out ((ji21):Int) p30 q30
                 replace p30:=eq_true p30
                 replace q30:=eq_true q30
                 have HP32:=Kd.R_putg HO_4.out ((ji21):Int) (wrap64 ((rd x4_3 (ji21)) - 1))
                 go_wp2_with (first|((with_reducible refine gate_store (t:=3) (p:=82) rfl ?_);refine store_event (t:=3) (p:=82) (v:=?vo_w33) (w1:=(wr.setCell ⟨go30,((ji21):Int).toNat,none⟩ (.int .i64 (wrap64 ((rd x4_3 (ji21)) - 1))))) ?hg ?ho ?hn ?hr ?_;(case ho=>rfl);(case hg=>rfl);(case hn=>rfl);(case hr=>first|(go_simp;done)|(go_simp;rfl));intro w33 hw;have hg:wr.grownBy w33 (some go30):=(by rw [hw];exact HP32.2);have hp_:Kd.R (Kd.int .i64) 3 w33 w.heap.size (fun _=>True) (.slice (some ⟨go30,0,none⟩) x4_3.length co31) y255:=(by rw [hw,Ny255.out];exact HP32.1);clear HP32;have n0_:=Aside0.mk (hp_);have n1_:=Aside0.mk ((by rw [hw];exact below_set (HB.out) GB30.out:Below w.heap.size w w33));clear HO_4 HB;have HO_4:=n0_;have HB:=n1_;clear n0_ n1_ hg hw hp_))
                 go_roundg k3
                 case measure=>have:=HK1.out;have:=HJ10.out;have:=HK3.out;omega
                 case rel=>exact ⟨(x3_3++(⟨#[44]⟩:ByteArray)),(y255),(wrap64 (x5_1+1)),qz9,qz9,H',⟨qz80⟩,⟨qz15⟩,⟨qz7⟩⟩
                ·rw [if_neg c29] at H
                 exact absurd H (by simp)
              ·rw [if_neg c23] at H
               exact absurd H (by simp)
             ·rw [if_neg c22] at H
              exact absurd H (by simp)
            ·rw [if_neg c20] at H
             have c20b0:decide (0<(x4_3.length:Int))=false:=decide_eq_false c20
             have c20b1:decide (0<x4_3.length)=false:=decide_eq_false (by omega)
             clear c20
             have H':=Aside0.mk H
             clear H
             obtain ⟨Ao34,co34,eo34⟩:=Kd.R_slice HO_4.out
             subst eo34
             go_wp2
             go_roundg k3
             case measure=>have:=HK1.out;have:=HJ10.out;have:=HK3.out;omega
             case rel=>exact ⟨(x3_3),(x4_3),(wrap64 (x5_1+1)),qz9,qz9,H',⟨qz80⟩,⟨qz15⟩,⟨qz7⟩⟩
      ·rw [if_neg c10] at H
       exact absurd H (by simp)
     ·rw [if_neg c8] at H
      exact absurd H (by simp)
    ·rw [if_neg c7] at H
     have c7b0:decide (x5_1<(l0.length:Int))=false:=decide_eq_false c7
     clear c7
     obtain rfl:=Option.some.inj H
     go_wp2
     go_ret
     exact ⟨qz8,qz7⟩
 ·replace c3:=Bool.eq_false_iff.mpr c3
  subst c3
  have H1:(some (⟨#[]⟩:ByteArray))=some r:=qz26
  clear H
  have H:=H1
  clear H1
  obtain rfl:=Option.some.inj H
  go_enter Tryz.func9,Tryz.ntmps9
  go_wp2_with (first|((with_reducible refine gate_callee (f:=12) rfl ?_);refine goesL_ (some 7) rfl rfl Tryz.func12 (by kernel_rfl) rfl #[.slice A0 l0.length c0] rfl qz4 ?_;(with_reducible refine (spec_TrmOk.calls k _ _ l0 false _ ?side1 ?side2 A2.out).mono ?_);(case side1=>exact qz76);(case side2=>exact HC0.out);rintro e w35 ⟨rfl,hb⟩;refine ⟨_,rfl,?_⟩;have n0_:=Aside0.mk (below_step qz5 hb);clear HB;have HB:=n0_;clear n0_;(try clear hb);(try clear hb2);(try clear hk);(try clear hi)))
  go_ret
  exact ⟨qz8,qz7⟩

/-! ### impl_in: function 25 -/
def impl_in.f (a0:Int) (a1:Int) (a2:Int):Option (Bool):=if a0≥a1 then (some (decide (a0≤a2))) else (some false)
set_option maxHeartbeats 8000000 in
set_option maxRecDepth 100000 in
theorem impl_in.calls (a0:Int) (a1:Int) (a2:Int) (r:Bool) (w:World) (h:impl_in.f a0 a1 a2=some r) :
  Calls Tryz.prog 25 #[.int .i64 a0,.int .i64 a1,.int .i64 a2] w fun e w'=>e = .returned (.bool r)∧Drawn0 w w':=by
 have H:(if a0≥a1 then (some (decide (a0≤a2))) else (some false))=some r:=h
 clear h
 by_cases c4:a0≥a1
 ·rw [if_pos c4] at H
  have c4b0:decide (a1≤a0)=true:=decide_eq_true c4
  clear c4
  obtain rfl:=Option.some.inj H
  go_enter Tryz.func25,Tryz.ntmps25
  go_wp2
  go_ret
  exact ⟨qz9,qz25⟩
 ·rw [if_neg c4] at H
  have c4b0:decide (a1≤a0)=false:=decide_eq_false c4
  clear c4
  obtain rfl:=Option.some.inj H
  go_enter Tryz.func25,Tryz.ntmps25
  go_wp2
  go_ret
  exact ⟨qz9,qz25⟩

/-! ### strings_Trim: function 56 -/
/-- strings.Trim at an ASCII cutset: the shelf's. -/
def strings_Trim.f (a0:ByteArray) (a1:ByteArray):Option (ByteArray):=if a0.size≤9223372036854775807 then (if a1.size<4294967281 then (if a1.data.toList.all (fun b=>decide (b.toNat<128)) then some (⟨(Lib.trimS a0.data.toList a1.data.toList).toArray⟩:ByteArray) else none) else none) else none
theorem strings_Trim.calls (a0:ByteArray) (a1:ByteArray) (r:ByteArray) (w:World) (h:strings_Trim.f a0 a1=some r) :
  Calls Tryz.prog 56 #[.string a0,.string a1] w fun e w'=>e = .returned (.string r)∧Below w.heap.size w w':=by
 unfold strings_Trim.f at h
 by_cases h1:a0.size≤9223372036854775807
 case neg=>rw [if_neg h1] at h;cases h
 rw [if_pos h1] at h
 by_cases h2:a1.size<4294967281
 case neg=>rw [if_neg h2] at h;cases h
 rw [if_pos h2] at h
 by_cases h3:a1.data.toList.all (fun b=>decide (b.toNat<128))=true
 case neg=>rw [if_neg h3] at h;cases h
 rw [if_pos h3] at h
 obtain rfl:=Option.some.inj h
 refine Tryz.trim_set a0 a1 w h1 h2 ?_
 intro j b hj
 have:=List.all_eq_true.1 h3 b (List.mem_of_getElem? hj)
 simpa using this

/-! ### impl_nameOk: function 44 -/
def impl_nameOk.f (a0:ByteArray):Option (Bool):=(impl_in.f (a0.size:Int) 1 8).bind fun t289=>(if t289=true then ((strings_Trim.f a0 (⟨#[97,98,99,100,101,102,103,104,105,106,107,108,109,110,111,112,113,114,115,116,117,118,119,120,121,122]⟩:ByteArray)).bind fun t290=>(if t290.toList=([]:List UInt8) then (some (a0.toList != ([97,110,100]:List UInt8))) else (some false))) else (some false))
set_option maxHeartbeats 8000000 in
set_option maxRecDepth 100000 in
theorem impl_nameOk.calls (a0:ByteArray) (r:Bool) (w:World) (h:impl_nameOk.f a0=some r) :
  Calls Tryz.prog 44 #[.string a0] w fun e w'=>e = .returned (.bool r)∧Below w.heap.size w w':=by
 have HB:=Aside0.mk (Below.refl w.heap.size w)
 have H:((impl_in.f (a0.size:Int) 1 8).bind fun t289=>(if t289=true then ((strings_Trim.f a0 (⟨#[97,98,99,100,101,102,103,104,105,106,107,108,109,110,111,112,113,114,115,116,117,118,119,120,121,122]⟩:ByteArray)).bind fun t290=>(if t290.toList=([]:List UInt8) then (some (a0.toList != ([97,110,100]:List UInt8))) else (some false))) else (some false)))=some r:=h
 clear h
 replace H:=Option.bind_eq_some_iff.mp H
 obtain ⟨t289,A20,H⟩:=H
 try dsimp only at H
 have A2:=Aside0.mk A20
 clear A20
 by_cases c3:t289=true
 ·subst c3
  have H1:((strings_Trim.f a0 (⟨#[97,98,99,100,101,102,103,104,105,106,107,108,109,110,111,112,113,114,115,116,117,118,119,120,121,122]⟩:ByteArray)).bind fun t290=>(if t290.toList=([]:List UInt8) then (some (a0.toList != ([97,110,100]:List UInt8))) else (some false)))=some r:=qz42
  clear H
  have H:=H1
  clear H1
  replace H:=Option.bind_eq_some_iff.mp H
  obtain ⟨t290,A40,H⟩:=H
  try dsimp only at H
  have A4:=Aside0.mk A40
  clear A40
  by_cases c5:t290.toList=([]:List UInt8)
  ·rw [if_pos c5] at H
   have c5b0:(t290.toList == ([]:List UInt8))=true:=beq_iff_eq.mpr c5
   have c5b1:(t290.toList != ([]:List UInt8))=false:=bne_eq_false_iff_eq.mpr c5
   clear c5
   obtain rfl:=Option.some.inj H
   go_enter Tryz.func44,Tryz.ntmps44
   go_wp2_with (first|((with_reducible refine gate_callee (f:=25) rfl ?_);refine goesL_ (some 5) rfl rfl Tryz.func25 (by kernel_rfl) rfl #[.int .i64 (a0.size:Int),.int .i64 1,.int .i64 8] rfl qz4 ?_;(with_reducible refine (impl_in.calls (a0.size:Int) 1 8 true _ A2.out).mono ?_);rintro e w' ⟨rfl,⟨nd,rfl⟩⟩;refine ⟨_,rfl,?_⟩)|(go_at_call 56;(with_reducible refine (strings_Trim.calls a0 (⟨#[97,98,99,100,101,102,103,104,105,106,107,108,109,110,111,112,113,114,115,116,117,118,119,120,121,122]⟩:ByteArray) t290 _ A4.out).mono ?_);rintro e w6 ⟨rfl,hb⟩;have n0_:=Aside0.mk (below_step qz5 hb);clear HB;have HB:=n0_;clear n0_;(try clear hb);(try clear hb2);(try clear hk);(try clear hi)))
   go_ret
   exact ⟨qz8,qz7⟩
  ·rw [if_neg c5] at H
   have c5b0:(t290.toList == ([]:List UInt8))=false:=beq_eq_false_iff_ne.mpr c5
   have c5b1:(t290.toList != ([]:List UInt8))=true:=bne_iff_ne.mpr c5
   obtain rfl:=Option.some.inj H
   go_enter Tryz.func44,Tryz.ntmps44
   go_wp2_with (first|((with_reducible refine gate_callee (f:=25) rfl ?_);refine goesL_ (some 5) rfl rfl Tryz.func25 (by kernel_rfl) rfl #[.int .i64 (a0.size:Int),.int .i64 1,.int .i64 8] rfl qz4 ?_;(with_reducible refine (impl_in.calls (a0.size:Int) 1 8 true _ A2.out).mono ?_);rintro e w' ⟨rfl,⟨nd,rfl⟩⟩;refine ⟨_,rfl,?_⟩)|(go_at_call 56;(with_reducible refine (strings_Trim.calls a0 (⟨#[97,98,99,100,101,102,103,104,105,106,107,108,109,110,111,112,113,114,115,116,117,118,119,120,121,122]⟩:ByteArray) t290 _ A4.out).mono ?_);rintro e w7 ⟨rfl,hb⟩;have n0_:=Aside0.mk (below_step qz5 hb);clear HB;have HB:=n0_;clear n0_;(try clear hb);(try clear hb2);(try clear hk);(try clear hi)))
   go_ret
   exact ⟨qz8,qz7⟩
 ·replace c3:=Bool.eq_false_iff.mpr c3
  subst c3
  have H1:(some false)=some r:=qz26
  clear H
  have H:=H1
  clear H1
  obtain rfl:=Option.some.inj H
  go_enter Tryz.func44,Tryz.ntmps44
  go_wp2_with (first|((with_reducible refine gate_callee (f:=25) rfl ?_);refine goesL_ (some 5) rfl rfl Tryz.func25 (by kernel_rfl) rfl #[.int .i64 (a0.size:Int),.int .i64 1,.int .i64 8] rfl qz4 ?_;(with_reducible refine (impl_in.calls (a0.size:Int) 1 8 false _ A2.out).mono ?_);rintro e w' ⟨rfl,⟨nd,rfl⟩⟩;refine ⟨_,rfl,?_⟩))
  go_ret
  exact ⟨qz8,qz7⟩

/-! ### impl_TrmCell_ok: function 24 -/
def impl_TrmCell_ok.f (a0_0:Int) (a0_1:Int) (a0_2:ByteArray):Option (Bool):=if a0_0=1 then ((impl_in.f a0_1 0 99999).bind fun t292=>(if t292=true then (some (a0_2.toList == ([]:List UInt8))) else (some false))) else (if a0_0=2 then ((impl_in.f a0_1 (-9999) 9999).bind fun t293=>(if t293=true then (some (a0_2.toList == ([]:List UInt8))) else (some false))) else (if a0_0=3 then ((impl_in.f a0_1 0 3).bind fun t294=>(if t294=true then ((impl_nameOk.f a0_2).bind fun t295=>(some t295)) else (some false))) else (some false)))
set_option maxHeartbeats 8000000 in
set_option maxRecDepth 100000 in
theorem impl_TrmCell_ok.calls (a0_0:Int) (a0_1:Int) (a0_2:ByteArray) (r:Bool) (w:World) (h:impl_TrmCell_ok.f a0_0 a0_1 a0_2=some r) :
  Calls Tryz.prog 24 #[.agg #[.int .i64 a0_0,.int .i64 a0_1,.string a0_2]] w fun e w'=>e = .returned (.bool r)∧Below w.heap.size w w':=by
 have hu43:=Tryz.underlying43
 have HB:=Aside0.mk (Below.refl w.heap.size w)
 have H:(if a0_0=1 then ((impl_in.f a0_1 0 99999).bind fun t292=>(if t292=true then (some (a0_2.toList == ([]:List UInt8))) else (some false))) else (if a0_0=2 then ((impl_in.f a0_1 (-9999) 9999).bind fun t293=>(if t293=true then (some (a0_2.toList == ([]:List UInt8))) else (some false))) else (if a0_0=3 then ((impl_in.f a0_1 0 3).bind fun t294=>(if t294=true then ((impl_nameOk.f a0_2).bind fun t295=>(some t295)) else (some false))) else (some false))))=some r:=h
 clear h
 by_cases c2:a0_0=1
 ·rw [if_pos c2] at H
  have c2b0:(a0_0 == 1)=true:=beq_iff_eq.mpr c2
  have c2b1:(a0_0 != 1)=false:=bne_eq_false_iff_eq.mpr c2
  clear c2
  replace H:=Option.bind_eq_some_iff.mp H
  obtain ⟨t292,A30,H⟩:=H
  try dsimp only at H
  have A3:=Aside0.mk A30
  clear A30
  by_cases c4:t292=true
  ·subst c4
   have H1:(some (a0_2.toList == ([]:List UInt8)))=some r:=qz42
   clear H
   have H:=H1
   clear H1
   obtain rfl:=Option.some.inj H
   go_enter Tryz.func24,Tryz.ntmps24
   go_wp2_with (first|((with_reducible refine gate_dst (N:=1) rfl ?_);refine box_event ?hg (N:=1) ?hd (cs:=#[.int .i64 a0_0,.int .i64 a0_1,.string a0_2]) (t:=43) ?hr ?_;(case hd=>rfl);(case hg=>rfl);(case hr=>first|(go_simp;done)|(go_simp;rfl));intro gb291 hg w5 hbox hb;have n0_:=Aside0.mk (below_step qz5 hb);have n1_:=Aside0.mk (hbox);have n2_:=Aside0.mk ((by rw [hg];exact (below_size qz5):w.heap.size≤gb291));have n3_:=Aside0.mk ((by rw [hg];exact (below_size qz5):w.heap.size≤gb291));clear HB;have HB:=n0_;have BK291:=n1_;have GW291:=n2_;have GE291:=n3_;clear n0_ n1_ n2_ n3_ hb hbox hg;have hcz6_0:w5.cell? ⟨gb291,0,none⟩=some (.int .i64 a0_0):=(blk_cell BK291.out 0).trans rfl;have hcz6_1:w5.cell? ⟨gb291,1,none⟩=some (.int .i64 a0_1):=(blk_cell BK291.out 1).trans rfl;have hcz6_2:w5.cell? ⟨gb291,2,none⟩=some (.string a0_2):=(blk_cell BK291.out 2).trans rfl;have hfz6_0:=blk_frozen BK291.out 0;have hfz6_1:=blk_frozen BK291.out 1;have hfz6_2:=blk_frozen BK291.out 2)|((with_reducible refine gate_callee (f:=25) rfl ?_);refine goesL_ (some 9) rfl rfl Tryz.func25 (by kernel_rfl) rfl #[.int .i64 a0_1,.int .i64 0,.int .i64 99999] rfl qz4 ?_;(with_reducible refine (impl_in.calls a0_1 0 99999 true _ A3.out).mono ?_);rintro e w' ⟨rfl,⟨nd,rfl⟩⟩;refine ⟨_,rfl,?_⟩))
   go_ret
   exact ⟨qz8,qz34⟩
  ·replace c4:=Bool.eq_false_iff.mpr c4
   subst c4
   have H1:(some false)=some r:=qz26
   clear H
   have H:=H1
   clear H1
   obtain rfl:=Option.some.inj H
   go_enter Tryz.func24,Tryz.ntmps24
   go_wp2_with (first|((with_reducible refine gate_dst (N:=1) rfl ?_);refine box_event ?hg (N:=1) ?hd (cs:=#[.int .i64 a0_0,.int .i64 a0_1,.string a0_2]) (t:=43) ?hr ?_;(case hd=>rfl);(case hg=>rfl);(case hr=>first|(go_simp;done)|(go_simp;rfl));intro gb291 hg w7 hbox hb;have n0_:=Aside0.mk (below_step qz5 hb);have n1_:=Aside0.mk (hbox);have n2_:=Aside0.mk ((by rw [hg];exact (below_size qz5):w.heap.size≤gb291));have n3_:=Aside0.mk ((by rw [hg];exact (below_size qz5):w.heap.size≤gb291));clear HB;have HB:=n0_;have BK291:=n1_;have GW291:=n2_;have GE291:=n3_;clear n0_ n1_ n2_ n3_ hb hbox hg;have hcz8_0:w7.cell? ⟨gb291,0,none⟩=some (.int .i64 a0_0):=(blk_cell BK291.out 0).trans rfl;have hcz8_1:w7.cell? ⟨gb291,1,none⟩=some (.int .i64 a0_1):=(blk_cell BK291.out 1).trans rfl;have hcz8_2:w7.cell? ⟨gb291,2,none⟩=some (.string a0_2):=(blk_cell BK291.out 2).trans rfl;have hfz8_0:=blk_frozen BK291.out 0;have hfz8_1:=blk_frozen BK291.out 1;have hfz8_2:=blk_frozen BK291.out 2)|((with_reducible refine gate_callee (f:=25) rfl ?_);refine goesL_ (some 9) rfl rfl Tryz.func25 (by kernel_rfl) rfl #[.int .i64 a0_1,.int .i64 0,.int .i64 99999] rfl qz4 ?_;(with_reducible refine (impl_in.calls a0_1 0 99999 false _ A3.out).mono ?_);rintro e w' ⟨rfl,⟨nd,rfl⟩⟩;refine ⟨_,rfl,?_⟩))
   go_ret
   exact ⟨qz8,qz34⟩
 ·rw [if_neg c2] at H
  have c2b0:(a0_0 == 1)=false:=beq_eq_false_iff_ne.mpr c2
  have c2b1:(a0_0 != 1)=true:=bne_iff_ne.mpr c2
  by_cases c9:a0_0=2
  ·rw [if_pos c9] at H
   have c9b0:(a0_0 == 2)=true:=beq_iff_eq.mpr c9
   have c9b1:(a0_0 != 2)=false:=bne_eq_false_iff_eq.mpr c9
   clear c9
   replace H:=Option.bind_eq_some_iff.mp H
   obtain ⟨t293,A100,H⟩:=H
   try dsimp only at H
   have A10:=Aside0.mk A100
   clear A100
   by_cases c11:t293=true
   ·subst c11
    have H1:(some (a0_2.toList == ([]:List UInt8)))=some r:=qz42
    clear H
    have H:=H1
    clear H1
    obtain rfl:=Option.some.inj H
    go_enter Tryz.func24,Tryz.ntmps24
    go_wp2_with (first|((with_reducible refine gate_dst (N:=1) rfl ?_);refine box_event ?hg (N:=1) ?hd (cs:=#[.int .i64 a0_0,.int .i64 a0_1,.string a0_2]) (t:=43) ?hr ?_;(case hd=>rfl);(case hg=>rfl);(case hr=>first|(go_simp;done)|(go_simp;rfl));intro gb291 hg w12 hbox hb;have n0_:=Aside0.mk (below_step qz5 hb);have n1_:=Aside0.mk (hbox);have n2_:=Aside0.mk ((by rw [hg];exact (below_size qz5):w.heap.size≤gb291));have n3_:=Aside0.mk ((by rw [hg];exact (below_size qz5):w.heap.size≤gb291));clear HB;have HB:=n0_;have BK291:=n1_;have GW291:=n2_;have GE291:=n3_;clear n0_ n1_ n2_ n3_ hb hbox hg;have hcz13_0:w12.cell? ⟨gb291,0,none⟩=some (.int .i64 a0_0):=(blk_cell BK291.out 0).trans rfl;have hcz13_1:w12.cell? ⟨gb291,1,none⟩=some (.int .i64 a0_1):=(blk_cell BK291.out 1).trans rfl;have hcz13_2:w12.cell? ⟨gb291,2,none⟩=some (.string a0_2):=(blk_cell BK291.out 2).trans rfl;have hfz13_0:=blk_frozen BK291.out 0;have hfz13_1:=blk_frozen BK291.out 1;have hfz13_2:=blk_frozen BK291.out 2)|((with_reducible refine gate_callee (f:=25) rfl ?_);refine goesL_ (some 19) rfl rfl Tryz.func25 (by kernel_rfl) rfl #[.int .i64 a0_1,.int .i64 (-9999),.int .i64 9999] rfl qz4 ?_;(with_reducible refine (impl_in.calls a0_1 (-9999) 9999 true _ A10.out).mono ?_);rintro e w' ⟨rfl,⟨nd,rfl⟩⟩;refine ⟨_,rfl,?_⟩))
    go_ret
    exact ⟨qz8,qz34⟩
   ·replace c11:=Bool.eq_false_iff.mpr c11
    subst c11
    have H1:(some false)=some r:=qz26
    clear H
    have H:=H1
    clear H1
    obtain rfl:=Option.some.inj H
    go_enter Tryz.func24,Tryz.ntmps24
    go_wp2_with (first|((with_reducible refine gate_dst (N:=1) rfl ?_);refine box_event ?hg (N:=1) ?hd (cs:=#[.int .i64 a0_0,.int .i64 a0_1,.string a0_2]) (t:=43) ?hr ?_;(case hd=>rfl);(case hg=>rfl);(case hr=>first|(go_simp;done)|(go_simp;rfl));intro gb291 hg w14 hbox hb;have n0_:=Aside0.mk (below_step qz5 hb);have n1_:=Aside0.mk (hbox);have n2_:=Aside0.mk ((by rw [hg];exact (below_size qz5):w.heap.size≤gb291));have n3_:=Aside0.mk ((by rw [hg];exact (below_size qz5):w.heap.size≤gb291));clear HB;have HB:=n0_;have BK291:=n1_;have GW291:=n2_;have GE291:=n3_;clear n0_ n1_ n2_ n3_ hb hbox hg;have hcz15_0:w14.cell? ⟨gb291,0,none⟩=some (.int .i64 a0_0):=(blk_cell BK291.out 0).trans rfl;have hcz15_1:w14.cell? ⟨gb291,1,none⟩=some (.int .i64 a0_1):=(blk_cell BK291.out 1).trans rfl;have hcz15_2:w14.cell? ⟨gb291,2,none⟩=some (.string a0_2):=(blk_cell BK291.out 2).trans rfl;have hfz15_0:=blk_frozen BK291.out 0;have hfz15_1:=blk_frozen BK291.out 1;have hfz15_2:=blk_frozen BK291.out 2)|((with_reducible refine gate_callee (f:=25) rfl ?_);refine goesL_ (some 19) rfl rfl Tryz.func25 (by kernel_rfl) rfl #[.int .i64 a0_1,.int .i64 (-9999),.int .i64 9999] rfl qz4 ?_;(with_reducible refine (impl_in.calls a0_1 (-9999) 9999 false _ A10.out).mono ?_);rintro e w' ⟨rfl,⟨nd,rfl⟩⟩;refine ⟨_,rfl,?_⟩))
    go_ret
    exact ⟨qz8,qz34⟩
  ·rw [if_neg c9] at H
   have c9b0:(a0_0 == 2)=false:=beq_eq_false_iff_ne.mpr c9
   have c9b1:(a0_0 != 2)=true:=bne_iff_ne.mpr c9
   by_cases c16:a0_0=3
   ·rw [if_pos c16] at H
    have c16b0:(a0_0 == 3)=true:=beq_iff_eq.mpr c16
    have c16b1:(a0_0 != 3)=false:=bne_eq_false_iff_eq.mpr c16
    clear c16
    replace H:=Option.bind_eq_some_iff.mp H
    obtain ⟨t294,A170,H⟩:=H
    try dsimp only at H
    have A17:=Aside0.mk A170
    clear A170
    by_cases c18:t294=true
    ·subst c18
     have H1:((impl_nameOk.f a0_2).bind fun t295=>(some t295))=some r:=qz42
     clear H
     have H:=H1
     clear H1
     replace H:=Option.bind_eq_some_iff.mp H
     obtain ⟨t295,A190,H⟩:=H
     try dsimp only at H
     have A19:=Aside0.mk A190
     clear A190
     obtain rfl:=Option.some.inj H
     go_enter Tryz.func24,Tryz.ntmps24
     go_wp2_with (first|((with_reducible refine gate_dst (N:=1) rfl ?_);refine box_event ?hg (N:=1) ?hd (cs:=#[.int .i64 a0_0,.int .i64 a0_1,.string a0_2]) (t:=43) ?hr ?_;(case hd=>rfl);(case hg=>rfl);(case hr=>first|(go_simp;done)|(go_simp;rfl));intro gb291 hg w20 hbox hb;have n0_:=Aside0.mk (below_step qz5 hb);have n1_:=Aside0.mk (hbox);have n2_:=Aside0.mk ((by rw [hg];exact (below_size qz5):w.heap.size≤gb291));have n3_:=Aside0.mk ((by rw [hg];exact (below_size qz5):w.heap.size≤gb291));clear HB;have HB:=n0_;have BK291:=n1_;have GW291:=n2_;have GE291:=n3_;clear n0_ n1_ n2_ n3_ hb hbox hg;have hcz21_0:w20.cell? ⟨gb291,0,none⟩=some (.int .i64 a0_0):=(blk_cell BK291.out 0).trans rfl;have hcz21_1:w20.cell? ⟨gb291,1,none⟩=some (.int .i64 a0_1):=(blk_cell BK291.out 1).trans rfl;have hcz21_2:w20.cell? ⟨gb291,2,none⟩=some (.string a0_2):=(blk_cell BK291.out 2).trans rfl;have hfz21_0:=blk_frozen BK291.out 0;have hfz21_1:=blk_frozen BK291.out 1;have hfz21_2:=blk_frozen BK291.out 2)|((with_reducible refine gate_callee (f:=25) rfl ?_);refine goesL_ (some 29) rfl rfl Tryz.func25 (by kernel_rfl) rfl #[.int .i64 a0_1,.int .i64 0,.int .i64 3] rfl qz4 ?_;(with_reducible refine (impl_in.calls a0_1 0 3 true _ A17.out).mono ?_);rintro e w' ⟨rfl,⟨nd,rfl⟩⟩;refine ⟨_,rfl,?_⟩)|(go_at_call 44;(with_reducible refine (impl_nameOk.calls a0_2 t295 _ A19.out).mono ?_);rintro e w22 ⟨rfl,hb⟩;have n0_:=Aside0.mk (blk_below (g:=gb291) (o:=.cells #[.int .i64 a0_0,.int .i64 a0_1,.string a0_2] 43 (0,0)) (by (with_reducible repeat (first|refine blk_drewN ?_ _|refine blk_drew ?_|refine blk_alloc ?_ _));exact BK291.out) hb);have n1_:=Aside0.mk (below_step qz34 hb);clear BK291 HB;have BK291:=n0_;have HB:=n1_;clear n0_ n1_;(try clear hb);(try clear hb2);(try clear hk);(try clear hi)))
     go_ret
     exact ⟨qz8,qz34⟩
    ·replace c18:=Bool.eq_false_iff.mpr c18
     subst c18
     have H1:(some false)=some r:=qz26
     clear H
     have H:=H1
     clear H1
     obtain rfl:=Option.some.inj H
     go_enter Tryz.func24,Tryz.ntmps24
     go_wp2_with (first|((with_reducible refine gate_dst (N:=1) rfl ?_);refine box_event ?hg (N:=1) ?hd (cs:=#[.int .i64 a0_0,.int .i64 a0_1,.string a0_2]) (t:=43) ?hr ?_;(case hd=>rfl);(case hg=>rfl);(case hr=>first|(go_simp;done)|(go_simp;rfl));intro gb291 hg w23 hbox hb;have n0_:=Aside0.mk (below_step qz5 hb);have n1_:=Aside0.mk (hbox);have n2_:=Aside0.mk ((by rw [hg];exact (below_size qz5):w.heap.size≤gb291));have n3_:=Aside0.mk ((by rw [hg];exact (below_size qz5):w.heap.size≤gb291));clear HB;have HB:=n0_;have BK291:=n1_;have GW291:=n2_;have GE291:=n3_;clear n0_ n1_ n2_ n3_ hb hbox hg;have hcz24_0:w23.cell? ⟨gb291,0,none⟩=some (.int .i64 a0_0):=(blk_cell BK291.out 0).trans rfl;have hcz24_1:w23.cell? ⟨gb291,1,none⟩=some (.int .i64 a0_1):=(blk_cell BK291.out 1).trans rfl;have hcz24_2:w23.cell? ⟨gb291,2,none⟩=some (.string a0_2):=(blk_cell BK291.out 2).trans rfl;have hfz24_0:=blk_frozen BK291.out 0;have hfz24_1:=blk_frozen BK291.out 1;have hfz24_2:=blk_frozen BK291.out 2)|((with_reducible refine gate_callee (f:=25) rfl ?_);refine goesL_ (some 29) rfl rfl Tryz.func25 (by kernel_rfl) rfl #[.int .i64 a0_1,.int .i64 0,.int .i64 3] rfl qz4 ?_;(with_reducible refine (impl_in.calls a0_1 0 3 false _ A17.out).mono ?_);rintro e w' ⟨rfl,⟨nd,rfl⟩⟩;refine ⟨_,rfl,?_⟩))
     go_ret
     exact ⟨qz8,qz34⟩
   ·rw [if_neg c16] at H
    have c16b0:(a0_0 == 3)=false:=beq_eq_false_iff_ne.mpr c16
    have c16b1:(a0_0 != 3)=true:=bne_iff_ne.mpr c16
    obtain rfl:=Option.some.inj H
    go_enter Tryz.func24,Tryz.ntmps24
    go_wp2_with (first|((with_reducible refine gate_dst (N:=1) rfl ?_);refine box_event ?hg (N:=1) ?hd (cs:=#[.int .i64 a0_0,.int .i64 a0_1,.string a0_2]) (t:=43) ?hr ?_;(case hd=>rfl);(case hg=>rfl);(case hr=>first|(go_simp;done)|(go_simp;rfl));intro gb291 hg w25 hbox hb;have n0_:=Aside0.mk (below_step qz5 hb);have n1_:=Aside0.mk (hbox);have n2_:=Aside0.mk ((by rw [hg];exact (below_size qz5):w.heap.size≤gb291));have n3_:=Aside0.mk ((by rw [hg];exact (below_size qz5):w.heap.size≤gb291));clear HB;have HB:=n0_;have BK291:=n1_;have GW291:=n2_;have GE291:=n3_;clear n0_ n1_ n2_ n3_ hb hbox hg;have hcz26_0:w25.cell? ⟨gb291,0,none⟩=some (.int .i64 a0_0):=(blk_cell BK291.out 0).trans rfl;have hcz26_1:w25.cell? ⟨gb291,1,none⟩=some (.int .i64 a0_1):=(blk_cell BK291.out 1).trans rfl;have hcz26_2:w25.cell? ⟨gb291,2,none⟩=some (.string a0_2):=(blk_cell BK291.out 2).trans rfl;have hfz26_0:=blk_frozen BK291.out 0;have hfz26_1:=blk_frozen BK291.out 1;have hfz26_2:=blk_frozen BK291.out 2))
    go_ret
    exact ⟨qz8,qz34⟩

/-! ### impl_TrmCell_arity: function 42 -/
def impl_TrmCell_arity.f (a0_0:Int) (a0_1:Int) (a0_2:ByteArray):Option (Int):=if a0_0=3 then (some a0_1) else (some 0)
set_option maxHeartbeats 8000000 in
set_option maxRecDepth 100000 in
theorem impl_TrmCell_arity.calls (a0_0:Int) (a0_1:Int) (a0_2:ByteArray) (r:Int) (w:World) (h:impl_TrmCell_arity.f a0_0 a0_1 a0_2=some r) :
  Calls Tryz.prog 42 #[.agg #[.int .i64 a0_0,.int .i64 a0_1,.string a0_2]] w fun e w'=>e = .returned (.int .i64 r)∧Below w.heap.size w w':=by
 have hu43:=Tryz.underlying43
 have HB:=Aside0.mk (Below.refl w.heap.size w)
 have H:(if a0_0=3 then (some a0_1) else (some 0))=some r:=h
 clear h
 by_cases c2:a0_0=3
 ·rw [if_pos c2] at H
  have c2b0:(a0_0 == 3)=true:=beq_iff_eq.mpr c2
  have c2b1:(a0_0 != 3)=false:=bne_eq_false_iff_eq.mpr c2
  clear c2
  obtain rfl:=Option.some.inj H
  go_enter Tryz.func42,Tryz.ntmps42
  go_wp2_with (first|((with_reducible refine gate_dst (N:=1) rfl ?_);refine box_event ?hg (N:=1) ?hd (cs:=#[.int .i64 a0_0,.int .i64 a0_1,.string a0_2]) (t:=43) ?hr ?_;(case hd=>rfl);(case hg=>rfl);(case hr=>first|(go_simp;done)|(go_simp;rfl));intro gb296 hg w3 hbox hb;have n0_:=Aside0.mk (below_step qz5 hb);have n1_:=Aside0.mk (hbox);have n2_:=Aside0.mk ((by rw [hg];exact (below_size qz5):w.heap.size≤gb296));have n3_:=Aside0.mk ((by rw [hg];exact (below_size qz5):w.heap.size≤gb296));clear HB;have HB:=n0_;have BK296:=n1_;have GW296:=n2_;have GE296:=n3_;clear n0_ n1_ n2_ n3_ hb hbox hg;have hcz4_0:w3.cell? ⟨gb296,0,none⟩=some (.int .i64 a0_0):=(blk_cell BK296.out 0).trans rfl;have hcz4_1:w3.cell? ⟨gb296,1,none⟩=some (.int .i64 a0_1):=(blk_cell BK296.out 1).trans rfl;have hcz4_2:w3.cell? ⟨gb296,2,none⟩=some (.string a0_2):=(blk_cell BK296.out 2).trans rfl;have hfz4_0:=blk_frozen BK296.out 0;have hfz4_1:=blk_frozen BK296.out 1;have hfz4_2:=blk_frozen BK296.out 2))
  go_ret
  exact ⟨qz8,qz75⟩
 ·rw [if_neg c2] at H
  have c2b0:(a0_0 == 3)=false:=beq_eq_false_iff_ne.mpr c2
  have c2b1:(a0_0 != 3)=true:=bne_iff_ne.mpr c2
  obtain rfl:=Option.some.inj H
  go_enter Tryz.func42,Tryz.ntmps42
  go_wp2_with (first|((with_reducible refine gate_dst (N:=1) rfl ?_);refine box_event ?hg (N:=1) ?hd (cs:=#[.int .i64 a0_0,.int .i64 a0_1,.string a0_2]) (t:=43) ?hr ?_;(case hd=>rfl);(case hg=>rfl);(case hr=>first|(go_simp;done)|(go_simp;rfl));intro gb296 hg w5 hbox hb;have n0_:=Aside0.mk (below_step qz5 hb);have n1_:=Aside0.mk (hbox);have n2_:=Aside0.mk ((by rw [hg];exact (below_size qz5):w.heap.size≤gb296));have n3_:=Aside0.mk ((by rw [hg];exact (below_size qz5):w.heap.size≤gb296));clear HB;have HB:=n0_;have BK296:=n1_;have GW296:=n2_;have GE296:=n3_;clear n0_ n1_ n2_ n3_ hb hbox hg;have hcz6_0:w5.cell? ⟨gb296,0,none⟩=some (.int .i64 a0_0):=(blk_cell BK296.out 0).trans rfl;have hcz6_1:w5.cell? ⟨gb296,1,none⟩=some (.int .i64 a0_1):=(blk_cell BK296.out 1).trans rfl;have hcz6_2:w5.cell? ⟨gb296,2,none⟩=some (.string a0_2):=(blk_cell BK296.out 2).trans rfl;have hfz6_0:=blk_frozen BK296.out 0;have hfz6_1:=blk_frozen BK296.out 1;have hfz6_2:=blk_frozen BK296.out 2))
  go_ret
  exact ⟨qz8,qz75⟩

end Go.Proofs.YtibencknfheplaaGreatDoor.P
