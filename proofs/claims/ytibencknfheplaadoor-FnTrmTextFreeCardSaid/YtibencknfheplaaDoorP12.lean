/- Contracts of functions of the program: each as a Lean function, and that its call does what that says; printed by cprint.py (this session) over print.py of the kit. Conditions: the hypotheses of each theorem. -/
import Derived.Test.YtibencknfheplaaDoorVZ
import Derived.Test.YtibencknfheplaaDoorP0
import Derived.Test.YtibencknfheplaaDoorP2
import Derived.Test.YtibencknfheplaaDoorP3
import Derived.Test.YtibencknfheplaaDoorP5
import Derived.Test.YtibencknfheplaaDoorP6
import Derived.Test.YtibencknfheplaaDoorP7
import Derived.Test.YtibencknfheplaaDoorP11
namespace Go.Proofs.YtibencknfheplaaDoor.P
open Go.RowKit Go.Proofs.YtibencknfheplaaDoorW.PrintWords Go.Proofs.YtibencknfheplaaDoorW.PrintLast Go.Proofs.YtibencknfheplaaDoorW.PrintMore
attribute [local go_sem] max2_int min2_int max_two min_two max_three min_three max_four min_four   -- for this text's walks alone
set_option linter.unusedVariables false
set_option linter.unusedSimpArgs false

/-! ### laws_FnTrmTextFree: function 4 -/
mutual
def laws_FnTrmTextFree.l0:Nat→List (S34)→ByteArray→Int→Option (Bool)
 | 0,_,_,_=>none
 | k+1,x3,x4,x5=>if x5<(x3.length:Int) then (if 0≤x5 then (if ((rd_T34 x3 x5).f0)=1 then (laws_FnTrmTextFree.j1 k x3 x4 x5 (decide (((rd_T34 x3 x5).f1)<99999))) else (laws_FnTrmTextFree.j1 k x3 x4 x5 false)) else (none)) else (if x4.size+1≤9223372036854775807 then ((impl_TrmRead.f k (x4++(⟨#[32]⟩:ByteArray))).bind fun bt309=>(if 1+x4.size≤9223372036854775807 then ((impl_TrmRead.f k ((⟨#[32]⟩:ByteArray)++x4)).bind fun bt313=>(if bt309.2=true then (some false) else (some (!bt313.2)))) else (none))) else (none))
def laws_FnTrmTextFree.j1:Nat→List (S34)→ByteArray→Int→Bool→Option (Bool)
 | 0,_,_,_,_=>none
 | k+1,x3,x4,x5,x49=>if x49=true then ((some (([]:List (S34)):List (S34))).bind fun y300=>(if y300.length+x3.length<4398046511104 then ((some (y300++x3:List (S34))).bind fun y303=>(if 0≤x5 then (if x5<(y303.length:Int) then ((impl_TrmText.f k (y303.set (x5:Int).toNat (⟨(rd_T34 y303 x5).f0,wrap64 (((rd_T34 y303 x5).f1)+1),(rd_T34 y303 x5).f2⟩:S34))).bind fun t308=>(if t308.toList=x4.toList then (some false) else (laws_FnTrmTextFree.l0 k x3 x4 (wrap64 (x5+1))))) else (none)) else (none))) else (none))) else (laws_FnTrmTextFree.l0 k x3 x4 (wrap64 (x5+1)))
end
def laws_FnTrmTextFree.f (k:Nat) (l0:List Int):Option (Bool):=if (l0.length:Int) > 1048576 then (some true) else ((spec_DrawTrmText.f k l0).bind fun t291=>((impl_TrmText.f k t291).bind fun t294=>((spec_TrmText.f k t291).bind fun t295=>(if t294.toList=t295.toList then ((spec_TrmOk.f k t291).bind fun t296=>(if t296=true then (laws_FnTrmTextFree.l0 k t291 t294 0) else (if t294.toList=([]:List UInt8) then ((laws_caOk.f).bind fun t297=>(some t297)) else (some false)))) else (some false)))))
set_option maxHeartbeats 8000000 in
set_option maxRecDepth 100000 in
theorem laws_FnTrmTextFree.calls (k:Nat) (A0:Option Addr) (c0:Nat) (l0:List Int) (r:Bool) (w:World) (hE_:ErrT w) (hT_:TabT w) (hr0:Kd.C (Kd.int .u8) w A0 l0.length l0) (hc0:l0.length≤c0) (h:laws_FnTrmTextFree.f k l0=some r) :
  Calls Tryd.prog 4 #[.slice A0 l0.length c0] w fun e w'=>e = .returned (.bool r)∧Below w.heap.size w w':=by
 have HE_:=Aside0.mk hE_
 clear hE_
 have HT_:=Aside0.mk hT_
 clear hT_
 have HR0:=Aside0.mk hr0
 have HC0:=Aside0.mk hc0
 clear hr0 hc0
 have HB:=Aside0.mk (Below.refl w.heap.size w)
 have H:(if (l0.length:Int) > 1048576 then (some true) else ((spec_DrawTrmText.f k l0).bind fun t291=>((impl_TrmText.f k t291).bind fun t294=>((spec_TrmText.f k t291).bind fun t295=>(if t294.toList=t295.toList then ((spec_TrmOk.f k t291).bind fun t296=>(if t296=true then (laws_FnTrmTextFree.l0 k t291 t294 0) else (if t294.toList=([]:List UInt8) then ((laws_caOk.f).bind fun t297=>(some t297)) else (some false)))) else (some false))))))=some r:=h
 clear h
 by_cases c2:(l0.length:Int) > 1048576
 ·rw [if_pos c2] at H
  have c2b0:decide (1048576<(l0.length:Int))=true:=decide_eq_true c2
  have c2b0x0:=c2b0
  try simp only [hl3_1] at c2b0x0
  have c2b1:decide (1048576<l0.length)=true:=decide_eq_true (by omega)
  have c2b1x0:=c2b1
  try simp only [hl3_1] at c2b1x0
  clear c2
  obtain rfl:=Option.some.inj H
  go_enter Tryd.func4,Tryd.ntmps4
  go_wp2
  go_ret
  exact ⟨qz8,qz7⟩
 ·rw [if_neg c2] at H
  have c2b0:decide (1048576<(l0.length:Int))=false:=decide_eq_false c2
  have c2b0x0:=c2b0
  try simp only [hl3_1] at c2b0x0
  have c2b1:decide (1048576<l0.length)=false:=decide_eq_false (by omega)
  have c2b1x0:=c2b1
  try simp only [hl3_1] at c2b1x0
  clear c2
  replace H:=Option.bind_eq_some_iff.mp H
  obtain ⟨t291,A30,H⟩:=H
  try dsimp only at H
  have A3:=Aside0.mk A30
  clear A30
  replace H:=Option.bind_eq_some_iff.mp H
  obtain ⟨t294,A40,H⟩:=H
  try dsimp only at H
  have A4:=Aside0.mk A40
  clear A40
  replace H:=Option.bind_eq_some_iff.mp H
  obtain ⟨t295,A50,H⟩:=H
  try dsimp only at H
  have A5:=Aside0.mk A50
  clear A50
  by_cases c6:t294.toList=t295.toList
  ·rw [if_pos c6] at H
   have c6b0:(t294.toList == t295.toList)=true:=beq_iff_eq.mpr c6
   have c6b1:(t294.toList != t295.toList)=false:=bne_eq_false_iff_eq.mpr c6
   clear c6
   replace H:=Option.bind_eq_some_iff.mp H
   obtain ⟨t296,A70,H⟩:=H
   try dsimp only at H
   have A7:=Aside0.mk A70
   clear A70
   by_cases c8:t296=true
   ·subst c8
    have H1:(laws_FnTrmTextFree.l0 k t291 t294 0)=some r:=qz35
    clear H
    have H:=H1
    clear H1
    have H':=Aside0.mk H
    clear H
    go_enter Tryd.func4,Tryd.ntmps4
    go_wp2_with (first|((with_reducible refine gate_callee (f:=11) rfl ?_);refine goesL_ (some 15) rfl rfl Tryd.func11 (by kernel_rfl) rfl #[.slice A0 l0.length c0] rfl qz5 ?_;(with_reducible refine (spec_DrawTrmText.calls k _ _ l0 t291 _ ?side1 ?side2 A3.out).mono ?_);(case side1=>exact qz29);(case side2=>exact HC0.out);rintro e w9 ⟨v292,rfl,ho0,hb⟩;refine ⟨_,rfl,?_⟩;have n0_:=Aside0.mk (Kd.R_lower ho0 (below_size qz4));have n1_:=Aside0.mk (below_step qz4 hb);clear HB;have HO293:=n0_;have HB:=n1_;clear n0_ n1_;(try clear hb);(try clear hb2);(try clear hk);(try clear hi);(try clear ho0);obtain ⟨Ao10,co10,eo10⟩:=Kd.R_slice HO293.out;subst eo10)|((with_reducible refine gate_callee (f:=9) rfl ?_);refine goesL_ (some 17) rfl rfl Tryd.func9 (by kernel_rfl) rfl #[.slice Ao10 t291.length co10] rfl qz5 ?_;(with_reducible refine (impl_TrmText.calls (hT_:=HT_.out.below qz4) k _ _ t291 t294 _ ?side1 ?side2 A4.out).mono ?_);(case side1=>exact qz18);(case side2=>exact (Kd.R_reads' HO293.out).2.1);rintro e w11 ⟨rfl,hb⟩;refine ⟨_,rfl,?_⟩;have n0_:=Aside0.mk (Kd.R_below qz20 hb);have n1_:=Aside0.mk (below_step qz4 hb);clear HO293 HB;have HO293:=n0_;have HB:=n1_;clear n0_ n1_;(try clear hb);(try clear hb2);(try clear hk);(try clear hi))|((with_reducible refine gate_callee (f:=7) rfl ?_);refine goesL_ (some 20) rfl rfl Tryd.func7 (by kernel_rfl) rfl #[.slice Ao10 t291.length co10] rfl qz5 ?_;(with_reducible refine (spec_TrmText.calls k _ _ t291 t295 _ ?side1 ?side2 A5.out).mono ?_);(case side1=>exact qz18);(case side2=>exact (Kd.R_reads' HO293.out).2.1);rintro e w12 ⟨rfl,hb⟩;refine ⟨_,rfl,?_⟩;have n0_:=Aside0.mk (Kd.R_below qz20 hb);have n1_:=Aside0.mk (below_step qz4 hb);clear HO293 HB;have HO293:=n0_;have HB:=n1_;clear n0_ n1_;(try clear hb);(try clear hb2);(try clear hk);(try clear hi))|((with_reducible refine gate_callee (f:=12) rfl ?_);refine goesL_ (some 23) rfl rfl Tryd.func12 (by kernel_rfl) rfl #[.slice Ao10 t291.length co10] rfl qz5 ?_;(with_reducible refine (spec_TrmOk.calls k _ _ t291 true _ ?side1 ?side2 A7.out).mono ?_);(case side1=>exact qz18);(case side2=>exact (Kd.R_reads' HO293.out).2.1);rintro e w13 ⟨rfl,hb⟩;refine ⟨_,rfl,?_⟩;have n0_:=Aside0.mk (Kd.R_below qz20 hb);have n1_:=Aside0.mk (below_step qz4 hb);clear HO293 HB;have HO293:=n0_;have HB:=n1_;clear n0_ n1_;(try clear hb);(try clear hb2);(try clear hk);(try clear hi)))
    go_loopg [5] k (fun kq v5 w'=>∃ (x3_1:List (S34)) (x5_1:Int),v5 = .int .i64 x5_1∧Aside0 (laws_FnTrmTextFree.l0 kq x3_1 t294 x5_1=some r)∧Aside0 (kq≤k)∧Aside0 (Kd.R k34 34 w' w.heap.size (fun _=>True) (.slice Ao10 t291.length co10) x3_1)∧Aside0 (Below w.heap.size w w'))
    case atStart=>exact ⟨(t291),(0),qz11,H',⟨Nat.le_refl _⟩,⟨qz20⟩,⟨qz7⟩⟩
    case round=>
     clear H'
     try clear c1
     try clear c2
     try clear c2b0
     try clear c2b1
     try clear p2
     try clear c4
     try clear c6
     try clear c6b0
     try clear c6b1
     try clear c7
     try clear c8
     try clear c9
     try clear c11
     try clear c12
     obtain ⟨x3_1,x5_1,rfl,HA,HK1,HO_3,HB⟩:=hrel
     have hl3_1:=(Kd.R_reads' HO_3.out).1
     rw [hl3_1] at HO_3
     (try simp only [hl3_1])
     cases gk with
     | zero=>exact absurd HA.out (by simp [laws_FnTrmTextFree.l0])
     | succ k1=>
      have H:=HA.out
      clear HA
      simp only [laws_FnTrmTextFree.l0] at H
      by_cases c14:x5_1<(x3_1.length:Int)
      ·rw [if_pos c14] at H
       have c14b0:decide (x5_1<(x3_1.length:Int))=true:=decide_eq_true c14
       have c14b0x0:=c14b0
       try simp only [hl3_1] at c14b0x0
       clear c14
       have HC15:=Aside0.mk H
       clear H
       go_upto_region 12 with (fail)
       go_cut [49] (fun v49 wc=>∃ (kq:Nat) (x49_14:Bool),v49 = .bool x49_14∧Aside0 (laws_FnTrmTextFree.j1 kq x3_1 t294 x5_1 x49_14=some r)∧Aside0 (kq≤k1)∧Aside0 (Kd.R k34 34 wc w.heap.size (fun _=>True) (.slice Ao10 x3_1.length co10) x3_1)∧Aside0 (Below w.heap.size w wc))
       case first=>
        have H:=HC15.out
        clear HC15
        by_cases c16:0≤x5_1
        ·rw [if_pos c16] at H
         have c16b0:decide (0≤x5_1)=true:=decide_eq_true c16
         clear c16
         (first|rw [c16b0]|rw [c16b1]|(simp only [i64_w,i32_w];rw [c16b0])|skip)
         by_cases c17:((rd_T34 x3_1 x5_1).f0)=1
         ·rw [if_pos c17] at H
          have c17b0:(((rd_T34 x3_1 x5_1).f0) == 1)=true:=beq_iff_eq.mpr c17
          have c17b1:(((rd_T34 x3_1 x5_1).f0) != 1)=false:=bne_eq_false_iff_eq.mpr c17
          clear c17
          have H':=Aside0.mk H
          clear H
          have p298:0≤(x5_1:Int):=of_decide_eq_true qz6
          have q298:x5_1<(x3_1.length:Int):=of_decide_eq_true qz6
          obtain ⟨ad298,e298,hx298_0,hx298_1,hx298_2⟩:=at_T34 (Kd.R_reads' HO_3.out).2.2 x5_1 p298 q298
          cases e298
          replace p298:=eq_true p298
          replace q298:=eq_true q298
          have p299:0≤(x5_1:Int):=of_decide_eq_true qz6
          have q299:x5_1<(x3_1.length:Int):=of_decide_eq_true qz6
          obtain ⟨ad299,e299,hx299_0,hx299_1,hx299_2⟩:=at_T34 (Kd.R_reads' HO_3.out).2.2 x5_1 p299 q299
          obtain rfl:ad298=ad299:=(by injection e299)
          replace p299:=eq_true p299
          replace q299:=eq_true q299
          go_wp2
          go_meet
          case rel=>exact ⟨_,(decide (((rd_T34 x3_1 x5_1).f1)<99999)),qz11,H',⟨qz38⟩,⟨qz43⟩,⟨qz7⟩⟩
         ·rw [if_neg c17] at H
          have c17b0:(((rd_T34 x3_1 x5_1).f0) == 1)=false:=beq_eq_false_iff_ne.mpr c17
          have c17b1:(((rd_T34 x3_1 x5_1).f0) != 1)=true:=bne_iff_ne.mpr c17
          have H':=Aside0.mk H
          clear H
          have p298:0≤(x5_1:Int):=of_decide_eq_true qz6
          have q298:x5_1<(x3_1.length:Int):=of_decide_eq_true qz6
          obtain ⟨ad298,e298,hx298_0,hx298_1,hx298_2⟩:=at_T34 (Kd.R_reads' HO_3.out).2.2 x5_1 p298 q298
          cases e298
          replace p298:=eq_true p298
          replace q298:=eq_true q298
          go_wp2
          go_meet
          case rel=>exact ⟨_,(false),qz11,H',⟨qz38⟩,⟨qz43⟩,⟨qz7⟩⟩
        ·rw [if_neg c16] at H
         exact absurd H (by simp)
       case rest=>
        clear HC15
        try clear c1
        try clear c2
        try clear c2b0
        try clear c2b1
        try clear p2
        try clear q2
        try clear hx2
        try clear c4
        try clear c6
        try clear c6b0
        try clear c6b1
        try clear c7
        try clear c8
        try clear c9
        try clear c11
        try clear c12
        try clear c14
        try clear c14b0
        try clear c16
        try clear c16b0
        try clear c17
        try clear c17b0
        try clear c17b1
        try clear hx298_0
        try clear hx298_1
        try clear hx298_2
        try clear hx299_0
        try clear hx299_1
        try clear hx299_2
        try clear p2
        try clear p298
        try clear p299
        try clear q298
        try clear q299
        obtain ⟨kq,x49_14,rfl,HA,HJ14,HO_3,HB⟩:=hcut
        cases kq with
        | zero=>exact absurd HA.out (by simp [laws_FnTrmTextFree.j1])
        | succ kj14=>
         have H:=HA.out
         clear HA
         simp only [laws_FnTrmTextFree.j1] at H
         by_cases c18:x49_14=true
         ·subst c18
          have H1:((some (([]:List (S34)):List (S34))).bind fun y300=>(if y300.length+x3_1.length<4398046511104 then ((some (y300++x3_1:List (S34))).bind fun y303=>(if 0≤x5_1 then (if x5_1<(y303.length:Int) then ((impl_TrmText.f kj14 (y303.set (x5_1:Int).toNat (⟨(rd_T34 y303 x5_1).f0,wrap64 (((rd_T34 y303 x5_1).f1)+1),(rd_T34 y303 x5_1).f2⟩:S34))).bind fun t308=>(if t308.toList=t294.toList then (some false) else (laws_FnTrmTextFree.l0 kj14 x3_1 t294 (wrap64 (x5_1+1))))) else (none)) else (none))) else (none)))=some r:=qz35
          clear H
          have H:=H1
          clear H1
          obtain ⟨y300,hy300⟩:∃ y_:List (S34),y_=(([]:List (S34))):=⟨_,rfl⟩
          replace H:(if y300.length+x3_1.length<4398046511104 then ((some (y300++x3_1:List (S34))).bind fun y303=>(if 0≤x5_1 then (if x5_1<(y303.length:Int) then ((impl_TrmText.f kj14 (y303.set (x5_1:Int).toNat (⟨(rd_T34 y303 x5_1).f0,wrap64 (((rd_T34 y303 x5_1).f1)+1),(rd_T34 y303 x5_1).f2⟩:S34))).bind fun t308=>(if t308.toList=t294.toList then (some false) else (laws_FnTrmTextFree.l0 kj14 x3_1 t294 (wrap64 (x5_1+1))))) else (none)) else (none))) else (none))=some r:=by first|(rw [hy300];exact H)|exact H
          have Ny300:=Aside0.mk hy300
          clear hy300
          by_cases c19:y300.length+x3_1.length<4398046511104
          ·rw [if_pos c19] at H
           have LMc19:=Aside0.mk c19
           clear c19
           obtain ⟨y303,hy303⟩:∃ y_:List (S34),y_=(y300++x3_1):=⟨_,rfl⟩
           replace H:(if 0≤x5_1 then (if x5_1<(y303.length:Int) then ((impl_TrmText.f kj14 (y303.set (x5_1:Int).toNat (⟨(rd_T34 y303 x5_1).f0,wrap64 (((rd_T34 y303 x5_1).f1)+1),(rd_T34 y303 x5_1).f2⟩:S34))).bind fun t308=>(if t308.toList=t294.toList then (some false) else (laws_FnTrmTextFree.l0 kj14 x3_1 t294 (wrap64 (x5_1+1))))) else (none)) else (none))=some r:=by first|(rw [hy303];exact H)|exact H
           have Ny303:=Aside0.mk hy303
           clear hy303
           by_cases c20:0≤x5_1
           ·rw [if_pos c20] at H
            have c20b0:decide (0≤x5_1)=true:=decide_eq_true c20
            clear c20
            by_cases c21:x5_1<(y303.length:Int)
            ·rw [if_pos c21] at H
             have c21b0:decide (x5_1<(y303.length:Int))=true:=decide_eq_true c21
             have c21b0x0:=c21b0
             try simp only [hl3_1] at c21b0x0
             clear c21
             obtain ⟨y307,hy307⟩:∃ y_:List (S34),y_=(y303.set (x5_1:Int).toNat (⟨(rd_T34 y303 x5_1).f0,wrap64 (((rd_T34 y303 x5_1).f1)+1),(rd_T34 y303 x5_1).f2⟩:S34)):=⟨_,rfl⟩
             replace H:((impl_TrmText.f kj14 y307).bind fun t308=>(if t308.toList=t294.toList then (some false) else (laws_FnTrmTextFree.l0 kj14 x3_1 t294 (wrap64 (x5_1+1)))))=some r:=by first|(rw [hy307];exact H)|exact H
             have Ny307:=Aside0.mk hy307
             clear hy307
             replace H:=Option.bind_eq_some_iff.mp H
             obtain ⟨t308,A230,H⟩:=H
             try dsimp only at H
             have A23:=Aside0.mk A230
             clear A230
             by_cases c24:t308.toList=t294.toList
             ·rw [if_pos c24] at H
              have c24b0:(t308.toList == t294.toList)=true:=beq_iff_eq.mpr c24
              have c24b1:(t308.toList != t294.toList)=false:=bne_eq_false_iff_eq.mpr c24
              clear c24
              obtain rfl:=Option.some.inj H
              go_wp2_with (first|((with_reducible refine gate_dst (N:=50) rfl ?_);refine Kd.R_lit k34 _ 34 ?hg (N:=50) ?hd (xs:=([]:List (S34))) (inner:=[]) (ok:=fun _=>True) (okp:=fun _=>True) ?hr ?hp (fun _ hk=>hk) trivial (Below.refl _ _) (Nat.le_refl _) (by simp) ?_;(case hd=>rfl);(case hg=>rfl);(case hr=>first|(go_simp;done)|(go_simp;rfl));(case hp=>exact (Reps.none _ _));intro v301 w25 ho26 hb hg_ hnew_;clear hg_ hnew_;(first|rw [← Ny300.out] at ho26|(simp only [Int.reduceToNat] at ho26;rw [← Ny300.out] at ho26));have n0_:=Aside0.mk (Kd.R_elder' qz17 (Kd.R_base ho26) hb);have n1_:=Aside0.mk (Kd.R_lower (Kd.R_new' ho26 (Kd.R_lt qz17)) (below_size qz4));have n2_:=Aside0.mk (below_step qz4 hb);clear HO_3 HB;have HO_3:=n0_;have HO302:=n1_;have HB:=n2_;clear n0_ n1_ n2_ hb ho26)|((with_reducible refine gate_builtin (b:=.append) (xs:=#[.tmp 50,.tmp 51]) rfl ?_);at_builtin;refine Kd.R_append_rows k34 (w0:=w) w.heap.size rfl (.tmp 50) (.tmp 51) 25 34 (.agg #[(.int .i64 0),(.int .i64 0),(.string ⟨#[]⟩)]) 32 rfl Tryd.underlying25 info34 rfl (by decide) (by omega) v301 y300 x3_1 _ _ _ (fun k_=>some k_≠(.slice Ao10 x3_1.length co10:Value).ownBlock) (fun _=>False) rfl rfl ?aO ?aR (fun _ _ h=>h) (fun _ h=>h.elim) ?aF ?aB ?aS ?aL ?_;(case aR=>exact qz49);(case aB=>exact qz4);(case aF=>exact (fun k_ hk=>Kd.fresh' (Kd.R_lt qz17) k_ hk));(case aO=>exact qz51);(case aS=>exact (below_size qz4));(case aL=>have:=LMc19.out;omega);intro v304 w27 ho hb hg hat;rw [← Ny303.out] at ho;have n0_:=Aside0.mk (Kd.R_after (ok:=(fun _=>True)) qz17 hg hat);have n1_:=Aside0.mk (hb);have n2_:=Aside0.mk (ho);clear HO_3 HB HO302;have HO_3:=n0_;have HB:=n1_;have HO305:=n2_;clear n0_ n1_ n2_ ho hb hg hat;obtain ⟨Ao28,co28,eo28⟩:=Kd.R_slice HO305.out;subst eo28;have p306:0≤(x5_1:Int):=of_decide_eq_true qz6;have q306:x5_1<(y303.length:Int):=of_decide_eq_true qz6;obtain ⟨ad306,e306,hx306_0,hx306_1,hx306_2⟩:=at_T34 (Kd.R_reads' HO305.out).2.2 x5_1 p306 q306;cases e306;replace p306:=eq_true p306;replace q306:=eq_true q306;have p22:0≤(x5_1:Int):=of_decide_eq_true qz6;have q22:(x5_1:Int)<((y303.length:Int):Int):=of_decide_eq_true qz6;obtain ⟨go22,co22,eo22,gb22,gl22,cl22,HG22⟩:=Kd.R_form HO305.out (by omega);(first|cases eo22|(injection eo22 with ea_ en_ ec_;(first|subst ea_|(injection ea_ with ea_;subst ea_));subst ec_;clear en_));have GB22:=Aside0.mk gb22;have GG22:=Aside0.mk HG22;clear gb22 gl22 HG22;(first|simp only [add_plain] at hx306_0|skip);(first|simp only [add_plain] at hx306_1|skip);(first|simp only [add_plain] at hx306_2|skip);obtain ⟨ce22,hcl22,hM22,hcc22,hfr22⟩:=Kd.R_elem HO305.out z34 (x5_1:Int) p22 q22;obtain rfl:=k34_openM hM22;have hx22_0:w27.cell? ⟨go22,(x5_1:Int).toNat * 3,none⟩=some (.int .i64 ((rd_T34 y303 x5_1).f0)):=hcc22 0 _ rfl;have hx22_1:w27.cell? ⟨go22,(x5_1:Int).toNat * 3+1,none⟩=some (.int .i64 ((rd_T34 y303 x5_1).f1)):=hcc22 1 _ rfl;have hx22_2:w27.cell? ⟨go22,(x5_1:Int).toNat * 3+2,none⟩=some (.string ((rd_T34 y303 x5_1).f2)):=hcc22 2 _ rfl;have hf22_0:w27.frozen? ⟨go22,(x5_1:Int).toNat * 3,none⟩=false:=hfr22 0;have hf22_1:w27.frozen? ⟨go22,(x5_1:Int).toNat * 3+1,none⟩=false:=hfr22 1;have hf22_2:w27.frozen? ⟨go22,(x5_1:Int).toNat * 3+2,none⟩=false:=hfr22 2;(try clear hcl22);(try clear hcc22);(try clear hfr22);(try clear hM22);replace p22:=eq_true p22;replace q22:=eq_true q22;have HX29:=Aside0.mk (show Kd.R k34 34 w27 w.heap.size (fun k_=>some k_≠(.slice Ao10 x3_1.length co10:Value).ownBlock) (.slice (some ⟨go22,0,none⟩) y303.length co28) y303 from qz40);obtain ⟨ce29,hcl29,hM29,hcc29,hfr29⟩:=Kd.R_elem HX29.out z34 (x5_1:Int) (of_decide_eq_true qz6) (by have h_:(x5_1:Int)<((y303.length:Int):Int):=of_decide_eq_true qz6;first|exact h_|(have e_:=(Kd.R_reads' HO305.out).1;omega)|simpa using h_);obtain rfl:=k34_openM hM29;have HP29:=Kd.R_seg HX29.out (x5_1:Int) (of_decide_eq_true qz6) (by have h_:(x5_1:Int)<((y303.length:Int):Int):=of_decide_eq_true qz6;first|exact h_|(have e_:=(Kd.R_reads' HO305.out).1;omega)|simpa using h_) (seg:=[.int .i64 (wrap64 (((rd_T34 y303 x5_1).f1)+1))]) (j:=1) hcl29 hcc29 (show 2≤3 from by decide) (x':=(⟨(rd_T34 y303 x5_1).f0,wrap64 (((rd_T34 y303 x5_1).f1)+1),(rd_T34 y303 x5_1).f2⟩:S34)) (k34_mkM _ _ _ (⟨(rd_T34 y303 x5_1).f0,wrap64 (((rd_T34 y303 x5_1).f1)+1),(rd_T34 y303 x5_1).f2⟩:S34) ) (fun _ hk=>hk);have hx29_1:=hcc29 1 _ rfl;(try simp only [show (k34).sz=3 from rfl,Nat.mul_one,Nat.add_zero] at hx29_1);have hf29_1:=hfr29 1;(try simp only [show (k34).sz=3 from rfl,Nat.mul_one,Nat.add_zero] at hf29_1);clear hcl29 hcc29 hfr29 hM29)|((with_reducible refine gate_store (t:=3) (p:=62) rfl ?_);refine store_event (t:=3) (p:=62) (v:=?vo_w30) (w1:=(w27.setCell ⟨go22,(x5_1:Int).toNat * 3+1,none⟩ (.int .i64 (wrap64 (((rd_T34 y303 x5_1).f1)+1))))) ?hg ?ho ?hn ?hr ?_;(case ho=>rfl);(case hg=>rfl);(case hn=>rfl);(case hr=>first|(go_simp;done)|(go_simp;rfl));intro w30 hw;have hg:w27.grownBy w30 (some go22):=(by rw [hw];exact HP29.2);have hp_:Kd.R k34 34 w30 w.heap.size (fun k_=>some k_≠(.slice Ao10 x3_1.length co10:Value).ownBlock) (.slice (some ⟨go22,0,none⟩) y303.length co28) y307:=(by rw [hw,Ny307.out];exact HP29.1);clear HP29;have n0_:=Aside0.mk (Kd.R_after (v:=(.slice (some ⟨go22,0,none⟩) y303.length co28)) (v1:=(.slice (some ⟨go22,0,none⟩) y303.length co28)) (ok:=(fun _=>True)) qz17 hg (.inl rfl));have n1_:=Aside0.mk (hp_);have n2_:=Aside0.mk ((by rw [hw];exact below_set (HB.out) GB22.out:Below w.heap.size w w30));clear HO_3 HO305 HB;have HO_3:=n0_;have HO305:=n1_;have HB:=n2_;clear n0_ n1_ n2_ hg hw hp_)|((with_reducible refine gate_callee (f:=9) rfl ?_);refine goesL_ (some 64) rfl rfl Tryd.func9 (by kernel_rfl) rfl #[.slice (some ⟨go22,0,none⟩) y307.length co28] rfl qz45 ?_;(with_reducible refine (impl_TrmText.calls (hT_:=HT_.out.below qz4) kj14 _ _ y307 t308 _ ?side1 ?side2 A23.out).mono ?_);(case side1=>exact qz48);(case side2=>rw [show y307.length=y303.length from (Kd.R_reads' HO305.out).1.symm];exact (Kd.R_reads' HO305.out).2.1);rintro e w31 ⟨rfl,hb⟩;refine ⟨_,rfl,?_⟩;have n0_:=Aside0.mk (Kd.R_below qz17 hb);have n1_:=Aside0.mk (Kd.R_below qz40 hb);have n2_:=Aside0.mk (below_step qz4 hb);clear HO_3 HO305 HB;have HO_3:=n0_;have HO305:=n1_;have HB:=n2_;clear n0_ n1_ n2_;(try clear hb);(try clear hb2);(try clear hk);(try clear hi)))
              go_ret
              exact ⟨qz8,qz7⟩
             ·rw [if_neg c24] at H
              have c24b0:(t308.toList == t294.toList)=false:=beq_eq_false_iff_ne.mpr c24
              have c24b1:(t308.toList != t294.toList)=true:=bne_iff_ne.mpr c24
              have H':=Aside0.mk H
              clear H
              go_wp2_with (first|((with_reducible refine gate_dst (N:=50) rfl ?_);refine Kd.R_lit k34 _ 34 ?hg (N:=50) ?hd (xs:=([]:List (S34))) (inner:=[]) (ok:=fun _=>True) (okp:=fun _=>True) ?hr ?hp (fun _ hk=>hk) trivial (Below.refl _ _) (Nat.le_refl _) (by simp) ?_;(case hd=>rfl);(case hg=>rfl);(case hr=>first|(go_simp;done)|(go_simp;rfl));(case hp=>exact (Reps.none _ _));intro v301 w32 ho33 hb hg_ hnew_;clear hg_ hnew_;(first|rw [← Ny300.out] at ho33|(simp only [Int.reduceToNat] at ho33;rw [← Ny300.out] at ho33));have n0_:=Aside0.mk (Kd.R_elder' qz17 (Kd.R_base ho33) hb);have n1_:=Aside0.mk (Kd.R_lower (Kd.R_new' ho33 (Kd.R_lt qz17)) (below_size qz4));have n2_:=Aside0.mk (below_step qz4 hb);clear HO_3 HB;have HO_3:=n0_;have HO302:=n1_;have HB:=n2_;clear n0_ n1_ n2_ hb ho33)|((with_reducible refine gate_builtin (b:=.append) (xs:=#[.tmp 50,.tmp 51]) rfl ?_);at_builtin;refine Kd.R_append_rows k34 (w0:=w) w.heap.size rfl (.tmp 50) (.tmp 51) 25 34 (.agg #[(.int .i64 0),(.int .i64 0),(.string ⟨#[]⟩)]) 32 rfl Tryd.underlying25 info34 rfl (by decide) (by omega) v301 y300 x3_1 _ _ _ (fun k_=>some k_≠(.slice Ao10 x3_1.length co10:Value).ownBlock) (fun _=>False) rfl rfl ?aO ?aR (fun _ _ h=>h) (fun _ h=>h.elim) ?aF ?aB ?aS ?aL ?_;(case aR=>exact qz49);(case aB=>exact qz4);(case aF=>exact (fun k_ hk=>Kd.fresh' (Kd.R_lt qz17) k_ hk));(case aO=>exact qz51);(case aS=>exact (below_size qz4));(case aL=>have:=LMc19.out;omega);intro v304 w34 ho hb hg hat;rw [← Ny303.out] at ho;have n0_:=Aside0.mk (Kd.R_after (ok:=(fun _=>True)) qz17 hg hat);have n1_:=Aside0.mk (hb);have n2_:=Aside0.mk (ho);clear HO_3 HB HO302;have HO_3:=n0_;have HB:=n1_;have HO305:=n2_;clear n0_ n1_ n2_ ho hb hg hat;obtain ⟨Ao35,co35,eo35⟩:=Kd.R_slice HO305.out;subst eo35;have p306:0≤(x5_1:Int):=of_decide_eq_true qz6;have q306:x5_1<(y303.length:Int):=of_decide_eq_true qz6;obtain ⟨ad306,e306,hx306_0,hx306_1,hx306_2⟩:=at_T34 (Kd.R_reads' HO305.out).2.2 x5_1 p306 q306;cases e306;replace p306:=eq_true p306;replace q306:=eq_true q306;have p22:0≤(x5_1:Int):=of_decide_eq_true qz6;have q22:(x5_1:Int)<((y303.length:Int):Int):=of_decide_eq_true qz6;obtain ⟨go22,co22,eo22,gb22,gl22,cl22,HG22⟩:=Kd.R_form HO305.out (by omega);(first|cases eo22|(injection eo22 with ea_ en_ ec_;(first|subst ea_|(injection ea_ with ea_;subst ea_));subst ec_;clear en_));have GB22:=Aside0.mk gb22;have GG22:=Aside0.mk HG22;clear gb22 gl22 HG22;(first|simp only [add_plain] at hx306_0|skip);(first|simp only [add_plain] at hx306_1|skip);(first|simp only [add_plain] at hx306_2|skip);obtain ⟨ce22,hcl22,hM22,hcc22,hfr22⟩:=Kd.R_elem HO305.out z34 (x5_1:Int) p22 q22;obtain rfl:=k34_openM hM22;have hx22_0:w34.cell? ⟨go22,(x5_1:Int).toNat * 3,none⟩=some (.int .i64 ((rd_T34 y303 x5_1).f0)):=hcc22 0 _ rfl;have hx22_1:w34.cell? ⟨go22,(x5_1:Int).toNat * 3+1,none⟩=some (.int .i64 ((rd_T34 y303 x5_1).f1)):=hcc22 1 _ rfl;have hx22_2:w34.cell? ⟨go22,(x5_1:Int).toNat * 3+2,none⟩=some (.string ((rd_T34 y303 x5_1).f2)):=hcc22 2 _ rfl;have hf22_0:w34.frozen? ⟨go22,(x5_1:Int).toNat * 3,none⟩=false:=hfr22 0;have hf22_1:w34.frozen? ⟨go22,(x5_1:Int).toNat * 3+1,none⟩=false:=hfr22 1;have hf22_2:w34.frozen? ⟨go22,(x5_1:Int).toNat * 3+2,none⟩=false:=hfr22 2;(try clear hcl22);(try clear hcc22);(try clear hfr22);(try clear hM22);replace p22:=eq_true p22;replace q22:=eq_true q22;have HX36:=Aside0.mk (show Kd.R k34 34 w34 w.heap.size (fun k_=>some k_≠(.slice Ao10 x3_1.length co10:Value).ownBlock) (.slice (some ⟨go22,0,none⟩) y303.length co35) y303 from qz40);obtain ⟨ce36,hcl36,hM36,hcc36,hfr36⟩:=Kd.R_elem HX36.out z34 (x5_1:Int) (of_decide_eq_true qz6) (by have h_:(x5_1:Int)<((y303.length:Int):Int):=of_decide_eq_true qz6;first|exact h_|(have e_:=(Kd.R_reads' HO305.out).1;omega)|simpa using h_);obtain rfl:=k34_openM hM36;have HP36:=Kd.R_seg HX36.out (x5_1:Int) (of_decide_eq_true qz6) (by have h_:(x5_1:Int)<((y303.length:Int):Int):=of_decide_eq_true qz6;first|exact h_|(have e_:=(Kd.R_reads' HO305.out).1;omega)|simpa using h_) (seg:=[.int .i64 (wrap64 (((rd_T34 y303 x5_1).f1)+1))]) (j:=1) hcl36 hcc36 (show 2≤3 from by decide) (x':=(⟨(rd_T34 y303 x5_1).f0,wrap64 (((rd_T34 y303 x5_1).f1)+1),(rd_T34 y303 x5_1).f2⟩:S34)) (k34_mkM _ _ _ (⟨(rd_T34 y303 x5_1).f0,wrap64 (((rd_T34 y303 x5_1).f1)+1),(rd_T34 y303 x5_1).f2⟩:S34) ) (fun _ hk=>hk);have hx36_1:=hcc36 1 _ rfl;(try simp only [show (k34).sz=3 from rfl,Nat.mul_one,Nat.add_zero] at hx36_1);have hf36_1:=hfr36 1;(try simp only [show (k34).sz=3 from rfl,Nat.mul_one,Nat.add_zero] at hf36_1);clear hcl36 hcc36 hfr36 hM36)|((with_reducible refine gate_store (t:=3) (p:=62) rfl ?_);refine store_event (t:=3) (p:=62) (v:=?vo_w37) (w1:=(w34.setCell ⟨go22,(x5_1:Int).toNat * 3+1,none⟩ (.int .i64 (wrap64 (((rd_T34 y303 x5_1).f1)+1))))) ?hg ?ho ?hn ?hr ?_;(case ho=>rfl);(case hg=>rfl);(case hn=>rfl);(case hr=>first|(go_simp;done)|(go_simp;rfl));intro w37 hw;have hg:w34.grownBy w37 (some go22):=(by rw [hw];exact HP36.2);have hp_:Kd.R k34 34 w37 w.heap.size (fun k_=>some k_≠(.slice Ao10 x3_1.length co10:Value).ownBlock) (.slice (some ⟨go22,0,none⟩) y303.length co35) y307:=(by rw [hw,Ny307.out];exact HP36.1);clear HP36;have n0_:=Aside0.mk (Kd.R_after (v:=(.slice (some ⟨go22,0,none⟩) y303.length co35)) (v1:=(.slice (some ⟨go22,0,none⟩) y303.length co35)) (ok:=(fun _=>True)) qz17 hg (.inl rfl));have n1_:=Aside0.mk (hp_);have n2_:=Aside0.mk ((by rw [hw];exact below_set (HB.out) GB22.out:Below w.heap.size w w37));clear HO_3 HO305 HB;have HO_3:=n0_;have HO305:=n1_;have HB:=n2_;clear n0_ n1_ n2_ hg hw hp_)|((with_reducible refine gate_callee (f:=9) rfl ?_);refine goesL_ (some 64) rfl rfl Tryd.func9 (by kernel_rfl) rfl #[.slice (some ⟨go22,0,none⟩) y307.length co35] rfl qz45 ?_;(with_reducible refine (impl_TrmText.calls (hT_:=HT_.out.below qz4) kj14 _ _ y307 t308 _ ?side1 ?side2 A23.out).mono ?_);(case side1=>exact qz48);(case side2=>rw [show y307.length=y303.length from (Kd.R_reads' HO305.out).1.symm];exact (Kd.R_reads' HO305.out).2.1);rintro e w38 ⟨rfl,hb⟩;refine ⟨_,rfl,?_⟩;have n0_:=Aside0.mk (Kd.R_below qz17 hb);have n1_:=Aside0.mk (Kd.R_below qz40 hb);have n2_:=Aside0.mk (below_step qz4 hb);clear HO_3 HO305 HB;have HO_3:=n0_;have HO305:=n1_;have HB:=n2_;clear n0_ n1_ n2_;(try clear hb);(try clear hb2);(try clear hk);(try clear hi)))
              (try simp only [← hl3_1])
              go_roundg kj14
              case measure=>have:=HK1.out;have:=HJ14.out;omega
              case rel=>exact ⟨(x3_1),(wrap64 (x5_1+1)),qz11,H',⟨by have:=HK1.out;have:=HJ14.out;omega⟩,⟨by (try simp only [hl3_1]);(with_reducible repeat (first|apply Kd.R_alloc|apply Kd.R_drewN|apply Kd.R_drew));exact Kd.R_mono HO_3.out (fun _ hk=>trivial)⟩,⟨qz7⟩⟩
            ·rw [if_neg c21] at H
             exact absurd H (by simp)
           ·rw [if_neg c20] at H
            exact absurd H (by simp)
          ·rw [if_neg c19] at H
           exact absurd H (by simp)
         ·replace c18:=Bool.eq_false_iff.mpr c18
          subst c18
          have H1:(laws_FnTrmTextFree.l0 kj14 x3_1 t294 (wrap64 (x5_1+1)))=some r:=qz22
          clear H
          have H:=H1
          clear H1
          have H':=Aside0.mk H
          clear H
          go_wp2
          (try simp only [← hl3_1])
          go_roundg kj14
          case measure=>have:=HK1.out;have:=HJ14.out;omega
          case rel=>exact ⟨(x3_1),(wrap64 (x5_1+1)),qz11,H',⟨by have:=HK1.out;have:=HJ14.out;omega⟩,⟨qz43⟩,⟨qz7⟩⟩
      ·rw [if_neg c14] at H
       have c14b0:decide (x5_1<(x3_1.length:Int))=false:=decide_eq_false c14
       have c14b0x0:=c14b0
       try simp only [hl3_1] at c14b0x0
       clear c14
       by_cases c39:t294.size+1≤9223372036854775807
       ·rw [if_pos c39] at H
        have c39b0:=eq_true c39
        have c39b1:decide (t294.size+1≤9223372036854775807)=true:=decide_eq_true c39
        try have c39b2:(9223372036854775807<t294.size+1)=False:=eq_false (Nat.not_lt.2 c39)
        replace H:=Option.bind_eq_some_iff.mp H
        obtain ⟨⟨t309,t310⟩,A400,H⟩:=H
        try dsimp only at H
        have A40:=Aside0.mk A400
        clear A400
        by_cases c41:1+t294.size≤9223372036854775807
        ·rw [if_pos c41] at H
         have c41b0:=eq_true c41
         have c41b1:decide (1+t294.size≤9223372036854775807)=true:=decide_eq_true c41
         try have c41b2:(9223372036854775807<1+t294.size)=False:=eq_false (Nat.not_lt.2 c41)
         replace H:=Option.bind_eq_some_iff.mp H
         obtain ⟨⟨t313,t314⟩,A420,H⟩:=H
         try dsimp only at H
         have A42:=Aside0.mk A420
         clear A420
         by_cases c43:t310=true
         ·subst c43
          have H1:(some false)=some r:=qz35
          clear H
          have H:=H1
          clear H1
          obtain rfl:=Option.some.inj H
          go_wp2_with (first|((with_reducible refine gate_callee (f:=14) rfl ?_);refine goesL_ (some 70) rfl rfl Tryd.func14 (by kernel_rfl) rfl #[.string (t294++(⟨#[32]⟩:ByteArray))] rfl qz5 ?_;(with_reducible refine (impl_TrmRead.calls (hE_:=HE_.out.below qz4) (hT_:=HT_.out.below qz4) k1 (t294++(⟨#[32]⟩:ByteArray)) t309 true _ A40.out).mono ?_);rintro e w44 ⟨v311,rfl,ho0,hb⟩;refine ⟨_,rfl,?_⟩;have n0_:=Aside0.mk (Kd.R_elder' qz17 (Kd.R_base ho0) hb);have n1_:=Aside0.mk (Kd.R_lower (Kd.R_new' ho0 (Kd.R_lt qz17)) (below_size qz4));have n2_:=Aside0.mk (below_step qz4 hb);clear HO_3 HB;have HO_3:=n0_;have HO312:=n1_;have HB:=n2_;clear n0_ n1_ n2_;(try clear hb);(try clear hb2);(try clear hk);(try clear hi);(try clear ho0))|((with_reducible refine gate_callee (f:=14) rfl ?_);refine goesL_ (some 76) rfl rfl Tryd.func14 (by kernel_rfl) rfl #[.string ((⟨#[32]⟩:ByteArray)++t294)] rfl qz5 ?_;(with_reducible refine (impl_TrmRead.calls (hE_:=HE_.out.below qz4) (hT_:=HT_.out.below qz4) k1 ((⟨#[32]⟩:ByteArray)++t294) t313 t314 _ A42.out).mono ?_);rintro e w45 ⟨v315,rfl,ho0,hb⟩;refine ⟨_,rfl,?_⟩;have n0_:=Aside0.mk (Kd.R_elder' qz17 (Kd.R_base ho0) hb);have n1_:=Aside0.mk (Kd.R_elder' qz39 (Kd.R_base ho0) hb);have n2_:=Aside0.mk (Kd.R_lower (Kd.R_new' (Kd.R_new' ho0 (Kd.R_lt qz17)) (Kd.R_lt qz39)) (below_size qz4));have n3_:=Aside0.mk (below_step qz4 hb);clear HO_3 HO312 HB;have HO_3:=n0_;have HO312:=n1_;have HO316:=n2_;have HB:=n3_;clear n0_ n1_ n2_ n3_;(try clear hb);(try clear hb2);(try clear hk);(try clear hi);(try clear ho0)))
          go_ret
          exact ⟨qz8,qz7⟩
         ·replace c43:=Bool.eq_false_iff.mpr c43
          subst c43
          have H1:(some (!t314))=some r:=qz22
          clear H
          have H:=H1
          clear H1
          obtain rfl:=Option.some.inj H
          go_wp2_with (first|((with_reducible refine gate_callee (f:=14) rfl ?_);refine goesL_ (some 70) rfl rfl Tryd.func14 (by kernel_rfl) rfl #[.string (t294++(⟨#[32]⟩:ByteArray))] rfl qz5 ?_;(with_reducible refine (impl_TrmRead.calls (hE_:=HE_.out.below qz4) (hT_:=HT_.out.below qz4) k1 (t294++(⟨#[32]⟩:ByteArray)) t309 false _ A40.out).mono ?_);rintro e w46 ⟨v311,rfl,ho0,hb⟩;refine ⟨_,rfl,?_⟩;have n0_:=Aside0.mk (Kd.R_elder' qz17 (Kd.R_base ho0) hb);have n1_:=Aside0.mk (Kd.R_lower (Kd.R_new' ho0 (Kd.R_lt qz17)) (below_size qz4));have n2_:=Aside0.mk (below_step qz4 hb);clear HO_3 HB;have HO_3:=n0_;have HO312:=n1_;have HB:=n2_;clear n0_ n1_ n2_;(try clear hb);(try clear hb2);(try clear hk);(try clear hi);(try clear ho0))|((with_reducible refine gate_callee (f:=14) rfl ?_);refine goesL_ (some 76) rfl rfl Tryd.func14 (by kernel_rfl) rfl #[.string ((⟨#[32]⟩:ByteArray)++t294)] rfl qz5 ?_;(with_reducible refine (impl_TrmRead.calls (hE_:=HE_.out.below qz4) (hT_:=HT_.out.below qz4) k1 ((⟨#[32]⟩:ByteArray)++t294) t313 t314 _ A42.out).mono ?_);rintro e w47 ⟨v315,rfl,ho0,hb⟩;refine ⟨_,rfl,?_⟩;have n0_:=Aside0.mk (Kd.R_elder' qz17 (Kd.R_base ho0) hb);have n1_:=Aside0.mk (Kd.R_elder' qz39 (Kd.R_base ho0) hb);have n2_:=Aside0.mk (Kd.R_lower (Kd.R_new' (Kd.R_new' ho0 (Kd.R_lt qz17)) (Kd.R_lt qz39)) (below_size qz4));have n3_:=Aside0.mk (below_step qz4 hb);clear HO_3 HO312 HB;have HO_3:=n0_;have HO312:=n1_;have HO316:=n2_;have HB:=n3_;clear n0_ n1_ n2_ n3_;(try clear hb);(try clear hb2);(try clear hk);(try clear hi);(try clear ho0)))
          go_ret
          exact ⟨qz8,qz7⟩
        ·rw [if_neg c41] at H
         exact absurd H (by simp)
       ·rw [if_neg c39] at H
        exact absurd H (by simp)
   ·replace c8:=Bool.eq_false_iff.mpr c8
    subst c8
    have H1:(if t294.toList=([]:List UInt8) then ((laws_caOk.f).bind fun t297=>(some t297)) else (some false))=some r:=qz22
    clear H
    have H:=H1
    clear H1
    by_cases c48:t294.toList=([]:List UInt8)
    ·rw [if_pos c48] at H
     have c48b0:(t294.toList == ([]:List UInt8))=true:=beq_iff_eq.mpr c48
     have c48b1:(t294.toList != ([]:List UInt8))=false:=bne_eq_false_iff_eq.mpr c48
     clear c48
     replace H:=Option.bind_eq_some_iff.mp H
     obtain ⟨t297,A490,H⟩:=H
     try dsimp only at H
     have A49:=Aside0.mk A490
     clear A490
     obtain rfl:=Option.some.inj H
     go_enter Tryd.func4,Tryd.ntmps4
     go_wp2_with (first|((with_reducible refine gate_callee (f:=11) rfl ?_);refine goesL_ (some 15) rfl rfl Tryd.func11 (by kernel_rfl) rfl #[.slice A0 l0.length c0] rfl qz5 ?_;(with_reducible refine (spec_DrawTrmText.calls k _ _ l0 t291 _ ?side1 ?side2 A3.out).mono ?_);(case side1=>exact qz29);(case side2=>exact HC0.out);rintro e w50 ⟨v292,rfl,ho0,hb⟩;refine ⟨_,rfl,?_⟩;have n0_:=Aside0.mk (Kd.R_lower ho0 (below_size qz4));have n1_:=Aside0.mk (below_step qz4 hb);clear HB;have HO293:=n0_;have HB:=n1_;clear n0_ n1_;(try clear hb);(try clear hb2);(try clear hk);(try clear hi);(try clear ho0);obtain ⟨Ao51,co51,eo51⟩:=Kd.R_slice HO293.out;subst eo51)|((with_reducible refine gate_callee (f:=9) rfl ?_);refine goesL_ (some 17) rfl rfl Tryd.func9 (by kernel_rfl) rfl #[.slice Ao51 t291.length co51] rfl qz5 ?_;(with_reducible refine (impl_TrmText.calls (hT_:=HT_.out.below qz4) k _ _ t291 t294 _ ?side1 ?side2 A4.out).mono ?_);(case side1=>exact qz18);(case side2=>exact (Kd.R_reads' HO293.out).2.1);rintro e w52 ⟨rfl,hb⟩;refine ⟨_,rfl,?_⟩;have n0_:=Aside0.mk (Kd.R_below qz20 hb);have n1_:=Aside0.mk (below_step qz4 hb);clear HO293 HB;have HO293:=n0_;have HB:=n1_;clear n0_ n1_;(try clear hb);(try clear hb2);(try clear hk);(try clear hi))|((with_reducible refine gate_callee (f:=7) rfl ?_);refine goesL_ (some 20) rfl rfl Tryd.func7 (by kernel_rfl) rfl #[.slice Ao51 t291.length co51] rfl qz5 ?_;(with_reducible refine (spec_TrmText.calls k _ _ t291 t295 _ ?side1 ?side2 A5.out).mono ?_);(case side1=>exact qz18);(case side2=>exact (Kd.R_reads' HO293.out).2.1);rintro e w53 ⟨rfl,hb⟩;refine ⟨_,rfl,?_⟩;have n0_:=Aside0.mk (Kd.R_below qz20 hb);have n1_:=Aside0.mk (below_step qz4 hb);clear HO293 HB;have HO293:=n0_;have HB:=n1_;clear n0_ n1_;(try clear hb);(try clear hb2);(try clear hk);(try clear hi))|((with_reducible refine gate_callee (f:=12) rfl ?_);refine goesL_ (some 23) rfl rfl Tryd.func12 (by kernel_rfl) rfl #[.slice Ao51 t291.length co51] rfl qz5 ?_;(with_reducible refine (spec_TrmOk.calls k _ _ t291 false _ ?side1 ?side2 A7.out).mono ?_);(case side1=>exact qz18);(case side2=>exact (Kd.R_reads' HO293.out).2.1);rintro e w54 ⟨rfl,hb⟩;refine ⟨_,rfl,?_⟩;have n0_:=Aside0.mk (Kd.R_below qz20 hb);have n1_:=Aside0.mk (below_step qz4 hb);clear HO293 HB;have HO293:=n0_;have HB:=n1_;clear n0_ n1_;(try clear hb);(try clear hb2);(try clear hk);(try clear hi))|(go_at_call 13;(with_reducible refine (laws_caOk.calls  t297 _ A49.out).mono ?_);rintro e w55 ⟨rfl,hb⟩;have n0_:=Aside0.mk (Kd.R_below qz20 hb);have n1_:=Aside0.mk (below_step qz4 hb);clear HO293 HB;have HO293:=n0_;have HB:=n1_;clear n0_ n1_;(try clear hb);(try clear hb2);(try clear hk);(try clear hi)))
     go_ret
     exact ⟨qz8,qz7⟩
    ·rw [if_neg c48] at H
     have c48b0:(t294.toList == ([]:List UInt8))=false:=beq_eq_false_iff_ne.mpr c48
     have c48b1:(t294.toList != ([]:List UInt8))=true:=bne_iff_ne.mpr c48
     obtain rfl:=Option.some.inj H
     go_enter Tryd.func4,Tryd.ntmps4
     go_wp2_with (first|((with_reducible refine gate_callee (f:=11) rfl ?_);refine goesL_ (some 15) rfl rfl Tryd.func11 (by kernel_rfl) rfl #[.slice A0 l0.length c0] rfl qz5 ?_;(with_reducible refine (spec_DrawTrmText.calls k _ _ l0 t291 _ ?side1 ?side2 A3.out).mono ?_);(case side1=>exact qz29);(case side2=>exact HC0.out);rintro e w56 ⟨v292,rfl,ho0,hb⟩;refine ⟨_,rfl,?_⟩;have n0_:=Aside0.mk (Kd.R_lower ho0 (below_size qz4));have n1_:=Aside0.mk (below_step qz4 hb);clear HB;have HO293:=n0_;have HB:=n1_;clear n0_ n1_;(try clear hb);(try clear hb2);(try clear hk);(try clear hi);(try clear ho0);obtain ⟨Ao57,co57,eo57⟩:=Kd.R_slice HO293.out;subst eo57)|((with_reducible refine gate_callee (f:=9) rfl ?_);refine goesL_ (some 17) rfl rfl Tryd.func9 (by kernel_rfl) rfl #[.slice Ao57 t291.length co57] rfl qz5 ?_;(with_reducible refine (impl_TrmText.calls (hT_:=HT_.out.below qz4) k _ _ t291 t294 _ ?side1 ?side2 A4.out).mono ?_);(case side1=>exact qz18);(case side2=>exact (Kd.R_reads' HO293.out).2.1);rintro e w58 ⟨rfl,hb⟩;refine ⟨_,rfl,?_⟩;have n0_:=Aside0.mk (Kd.R_below qz20 hb);have n1_:=Aside0.mk (below_step qz4 hb);clear HO293 HB;have HO293:=n0_;have HB:=n1_;clear n0_ n1_;(try clear hb);(try clear hb2);(try clear hk);(try clear hi))|((with_reducible refine gate_callee (f:=7) rfl ?_);refine goesL_ (some 20) rfl rfl Tryd.func7 (by kernel_rfl) rfl #[.slice Ao57 t291.length co57] rfl qz5 ?_;(with_reducible refine (spec_TrmText.calls k _ _ t291 t295 _ ?side1 ?side2 A5.out).mono ?_);(case side1=>exact qz18);(case side2=>exact (Kd.R_reads' HO293.out).2.1);rintro e w59 ⟨rfl,hb⟩;refine ⟨_,rfl,?_⟩;have n0_:=Aside0.mk (Kd.R_below qz20 hb);have n1_:=Aside0.mk (below_step qz4 hb);clear HO293 HB;have HO293:=n0_;have HB:=n1_;clear n0_ n1_;(try clear hb);(try clear hb2);(try clear hk);(try clear hi))|((with_reducible refine gate_callee (f:=12) rfl ?_);refine goesL_ (some 23) rfl rfl Tryd.func12 (by kernel_rfl) rfl #[.slice Ao57 t291.length co57] rfl qz5 ?_;(with_reducible refine (spec_TrmOk.calls k _ _ t291 false _ ?side1 ?side2 A7.out).mono ?_);(case side1=>exact qz18);(case side2=>exact (Kd.R_reads' HO293.out).2.1);rintro e w60 ⟨rfl,hb⟩;refine ⟨_,rfl,?_⟩;have n0_:=Aside0.mk (Kd.R_below qz20 hb);have n1_:=Aside0.mk (below_step qz4 hb);clear HO293 HB;have HO293:=n0_;have HB:=n1_;clear n0_ n1_;(try clear hb);(try clear hb2);(try clear hk);(try clear hi)))
     go_ret
     exact ⟨qz8,qz7⟩
  ·rw [if_neg c6] at H
   have c6b0:(t294.toList == t295.toList)=false:=beq_eq_false_iff_ne.mpr c6
   have c6b1:(t294.toList != t295.toList)=true:=bne_iff_ne.mpr c6
   obtain rfl:=Option.some.inj H
   go_enter Tryd.func4,Tryd.ntmps4
   go_wp2_with (first|((with_reducible refine gate_callee (f:=11) rfl ?_);refine goesL_ (some 15) rfl rfl Tryd.func11 (by kernel_rfl) rfl #[.slice A0 l0.length c0] rfl qz5 ?_;(with_reducible refine (spec_DrawTrmText.calls k _ _ l0 t291 _ ?side1 ?side2 A3.out).mono ?_);(case side1=>exact qz29);(case side2=>exact HC0.out);rintro e w61 ⟨v292,rfl,ho0,hb⟩;refine ⟨_,rfl,?_⟩;have n0_:=Aside0.mk (Kd.R_lower ho0 (below_size qz4));have n1_:=Aside0.mk (below_step qz4 hb);clear HB;have HO293:=n0_;have HB:=n1_;clear n0_ n1_;(try clear hb);(try clear hb2);(try clear hk);(try clear hi);(try clear ho0);obtain ⟨Ao62,co62,eo62⟩:=Kd.R_slice HO293.out;subst eo62)|((with_reducible refine gate_callee (f:=9) rfl ?_);refine goesL_ (some 17) rfl rfl Tryd.func9 (by kernel_rfl) rfl #[.slice Ao62 t291.length co62] rfl qz5 ?_;(with_reducible refine (impl_TrmText.calls (hT_:=HT_.out.below qz4) k _ _ t291 t294 _ ?side1 ?side2 A4.out).mono ?_);(case side1=>exact qz18);(case side2=>exact (Kd.R_reads' HO293.out).2.1);rintro e w63 ⟨rfl,hb⟩;refine ⟨_,rfl,?_⟩;have n0_:=Aside0.mk (Kd.R_below qz20 hb);have n1_:=Aside0.mk (below_step qz4 hb);clear HO293 HB;have HO293:=n0_;have HB:=n1_;clear n0_ n1_;(try clear hb);(try clear hb2);(try clear hk);(try clear hi))|((with_reducible refine gate_callee (f:=7) rfl ?_);refine goesL_ (some 20) rfl rfl Tryd.func7 (by kernel_rfl) rfl #[.slice Ao62 t291.length co62] rfl qz5 ?_;(with_reducible refine (spec_TrmText.calls k _ _ t291 t295 _ ?side1 ?side2 A5.out).mono ?_);(case side1=>exact qz18);(case side2=>exact (Kd.R_reads' HO293.out).2.1);rintro e w64 ⟨rfl,hb⟩;refine ⟨_,rfl,?_⟩;have n0_:=Aside0.mk (Kd.R_below qz20 hb);have n1_:=Aside0.mk (below_step qz4 hb);clear HO293 HB;have HO293:=n0_;have HB:=n1_;clear n0_ n1_;(try clear hb);(try clear hb2);(try clear hk);(try clear hi)))
   go_ret
   exact ⟨qz8,qz7⟩

end Go.Proofs.YtibencknfheplaaDoor.P
