/- Contracts of functions of the program: each as a Lean function, and that its call does what that says; printed by cprint.py (this session) over print.py of the kit. Conditions: the hypotheses of each theorem. -/
import Derived.Test.YtibencknfheplaaGreatDoorVZ
import Derived.Test.YtibencknfheplaaGreatDoorP0
import Derived.Test.YtibencknfheplaaGreatDoorP3
import Derived.Test.YtibencknfheplaaGreatDoorP4
import Derived.Test.YtibencknfheplaaGreatDoorP5
import Derived.Test.YtibencknfheplaaGreatDoorP6
import Derived.Test.YtibencknfheplaaGreatDoorP7
import Derived.Test.YtibencknfheplaaGreatDoorP10
import Derived.Test.YtibencknfheplaaGreatDoorP11
import Derived.Test.YtibencknfheplaaGreatDoorP15
namespace Go.Proofs.YtibencknfheplaaGreatDoor.P
open Go.RowKit Go.Proofs.YtibencknfheplaaGreatDoorW.PrintWords Go.Proofs.YtibencknfheplaaGreatDoorW.PrintLast Go.Proofs.YtibencknfheplaaGreatDoorW.PrintMore
attribute [local go_sem] max2_int min2_int max_two min_two max_three min_three max_four min_four   -- for this text's walks alone
set_option linter.unusedVariables false
set_option linter.unusedSimpArgs false

/-! ### laws_FnTrmText: function 3 -/
mutual
def laws_FnTrmText.j0:Nat→List Int→List Int→Bool→Option (Bool)
 | 0,_,_,_=>none
 | k+1,x0,x1,x20=>if x20=true then (some true) else ((spec_DrawTrmText.f k x0).bind fun t367=>((spec_DrawTrmRead.f k x1).bind fun t370=>((impl_TrmRead.f k t370).bind fun bt371=>((spec_TrmRead.f k t370).bind fun bt375=>((impl_TrmText.f k t367).bind fun t379=>((spec_TrmText.f k t367).bind fun t380=>(if t379.toList=t380.toList then ((laws_caTerm.f k bt371.1 bt375.1).bind fun t381=>(if t381=true then (if (bt371.2 != bt375.2)=true then (laws_FnTrmText.j1 k t367 t370 bt371.1 bt371.2 true) else ((impl_TrmOk.f t367).bind fun t382=>((spec_TrmOk.f k t367).bind fun t383=>(laws_FnTrmText.j1 k t367 t370 bt371.1 bt371.2 (t382 != t383))))) else (laws_FnTrmText.j1 k t367 t370 bt371.1 bt371.2 true))) else (laws_FnTrmText.j1 k t367 t370 bt371.1 bt371.2 true))))))))
def laws_FnTrmText.j1:Nat→List (S43)→ByteArray→List (S43)→Bool→Bool→Option (Bool)
 | 0,_,_,_,_,_=>none
 | k+1,x5,x6,x7,x8,x57=>if x57=true then (some false) else (if x8=true then ((impl_TrmOk.f x7).bind fun t384=>(if t384=true then ((impl_TrmText.f k x7).bind fun t385=>(laws_FnTrmText.j2 k x5 (t385.toList != x6.toList))) else (laws_FnTrmText.j2 k x5 true))) else (laws_FnTrmText.j2 k x5 false))
def laws_FnTrmText.j2:Nat→List (S43)→Bool→Option (Bool)
 | 0,_,_=>none
 | k+1,x5,x69=>if x69=true then (some false) else ((spec_TrmOk.f k x5).bind fun t386=>(if t386=true then ((impl_TrmText.f k x5).bind fun t389=>((impl_TrmRead.f k t389).bind fun bt390=>(if bt390.2=true then ((laws_caTerm.f k bt390.1 x5).bind fun t394=>(some t394)) else (some false)))) else ((impl_TrmText.f k x5).bind fun t387=>(if t387.toList=([]:List UInt8) then ((laws_caOk.f).bind fun t388=>(some t388)) else (some false)))))
end
def laws_FnTrmText.f (k:Nat) (l0:List Int) (l1:List Int):Option (Bool):=if (l0.length:Int) > 1048576 then (laws_FnTrmText.j0 k l0 l1 true) else (laws_FnTrmText.j0 k l0 l1 (decide ((l1.length:Int) > 1048576)))
set_option maxHeartbeats 8000000 in
set_option maxRecDepth 100000 in
theorem laws_FnTrmText.calls (k:Nat) (A0:Option Addr) (c0:Nat) (l0:List Int) (A1:Option Addr) (c1:Nat) (l1:List Int) (r:Bool) (w:World) (hE_:ErrT w) (hT_:TabT w) (hr0:Kd.C (Kd.int .u8) w A0 l0.length l0) (hc0:l0.length≤c0) (hr1:Kd.C (Kd.int .u8) w A1 l1.length l1) (hc1:l1.length≤c1) (h:laws_FnTrmText.f k l0 l1=some r) :
  Calls Tryz.prog 3 #[.slice A0 l0.length c0,.slice A1 l1.length c1] w fun e w'=>e = .returned (.bool r)∧Below w.heap.size w w':=by
 have HE_:=Aside0.mk hE_
 clear hE_
 have HT_:=Aside0.mk hT_
 clear hT_
 have HR0:=Aside0.mk hr0
 have HC0:=Aside0.mk hc0
 clear hr0 hc0
 have HR1:=Aside0.mk hr1
 have HC1:=Aside0.mk hc1
 clear hr1 hc1
 have HB:=Aside0.mk (Below.refl w.heap.size w)
 have H:(if (l0.length:Int) > 1048576 then (laws_FnTrmText.j0 k l0 l1 true) else (laws_FnTrmText.j0 k l0 l1 (decide ((l1.length:Int) > 1048576))))=some r:=h
 clear h
 have HC3:=Aside0.mk H
 clear H
 go_enter Tryz.func3,Tryz.ntmps3
 go_upto_region 1 with (fail)
 go_cut [20] (fun v20 wc=>∃ (kq:Nat) (x20_2:Bool),v20 = .bool x20_2∧Aside0 (laws_FnTrmText.j0 kq l0 l1 x20_2=some r)∧Aside0 (kq≤k)∧Aside0 (Below w.heap.size w wc))
 case first=>
  have H:=HC3.out
  clear HC3
  by_cases c4:(l0.length:Int) > 1048576
  ·rw [if_pos c4] at H
   have c4b0:decide (1048576<(l0.length:Int))=true:=decide_eq_true c4
   have c4b1:decide (1048576<l0.length)=true:=decide_eq_true (by omega)
   clear c4
   (first|rw [c4b0]|rw [c4b1]|(simp only [i64_w,i32_w];rw [c4b0])|skip)
   have H':=Aside0.mk H
   clear H
   go_wp2
   go_meet
   case rel=>exact ⟨_,(true),qz9,H',⟨qz49⟩,⟨qz7⟩⟩
  ·rw [if_neg c4] at H
   have c4b0:decide (1048576<(l0.length:Int))=false:=decide_eq_false c4
   have c4b1:decide (1048576<l0.length)=false:=decide_eq_false (by omega)
   clear c4
   (first|rw [c4b0]|rw [c4b1]|(simp only [i64_w,i32_w];rw [c4b0])|skip)
   have H':=Aside0.mk H
   clear H
   go_wp2
   go_meet
   case rel=>exact ⟨_,(decide ((l1.length:Int) > 1048576)),qz9,H',⟨qz49⟩,⟨qz7⟩⟩
 case rest=>
  clear HC3
  try clear c1
  try clear p2
  try clear c3
  try clear c4
  try clear c4b0
  try clear c4b1
  obtain ⟨kq,x20_2,rfl,HA,HJ2,HB⟩:=hcut
  cases kq with
  | zero=>exact absurd HA.out (by simp [laws_FnTrmText.j0])
  | succ kj2=>
   have H:=HA.out
   clear HA
   simp only [laws_FnTrmText.j0] at H
   by_cases c5:x20_2=true
   ·subst c5
    have H1:(some true)=some r:=qz42
    clear H
    have H:=H1
    clear H1
    obtain rfl:=Option.some.inj H
    go_wp2
    go_ret
    exact ⟨qz8,qz7⟩
   ·replace c5:=Bool.eq_false_iff.mpr c5
    subst c5
    have H1:((spec_DrawTrmText.f kj2 l0).bind fun t367=>((spec_DrawTrmRead.f kj2 l1).bind fun t370=>((impl_TrmRead.f kj2 t370).bind fun bt371=>((spec_TrmRead.f kj2 t370).bind fun bt375=>((impl_TrmText.f kj2 t367).bind fun t379=>((spec_TrmText.f kj2 t367).bind fun t380=>(if t379.toList=t380.toList then ((laws_caTerm.f kj2 bt371.1 bt375.1).bind fun t381=>(if t381=true then (if (bt371.2 != bt375.2)=true then (laws_FnTrmText.j1 kj2 t367 t370 bt371.1 bt371.2 true) else ((impl_TrmOk.f t367).bind fun t382=>((spec_TrmOk.f kj2 t367).bind fun t383=>(laws_FnTrmText.j1 kj2 t367 t370 bt371.1 bt371.2 (t382 != t383))))) else (laws_FnTrmText.j1 kj2 t367 t370 bt371.1 bt371.2 true))) else (laws_FnTrmText.j1 kj2 t367 t370 bt371.1 bt371.2 true))))))))=some r:=qz26
    clear H
    have H:=H1
    clear H1
    replace H:=Option.bind_eq_some_iff.mp H
    obtain ⟨t367,A60,H⟩:=H
    try dsimp only at H
    have A6:=Aside0.mk A60
    clear A60
    replace H:=Option.bind_eq_some_iff.mp H
    obtain ⟨t370,A70,H⟩:=H
    try dsimp only at H
    have A7:=Aside0.mk A70
    clear A70
    replace H:=Option.bind_eq_some_iff.mp H
    obtain ⟨⟨t371,t372⟩,A80,H⟩:=H
    try dsimp only at H
    have A8:=Aside0.mk A80
    clear A80
    replace H:=Option.bind_eq_some_iff.mp H
    obtain ⟨⟨t375,t376⟩,A90,H⟩:=H
    try dsimp only at H
    have A9:=Aside0.mk A90
    clear A90
    have HC10:=Aside0.mk H
    clear H
    go_upto_region 7 with (first|((with_reducible refine gate_callee (f:=4) rfl ?_);refine goesL_ (some 22) rfl rfl Tryz.func4 (by kernel_rfl) rfl #[.slice A0 l0.length c0] rfl qz4 ?_;(with_reducible refine (spec_DrawTrmText.calls kj2 _ _ l0 t367 _ ?side1 ?side2 A6.out).mono ?_);(case side1=>exact qz71);(case side2=>exact HC0.out);rintro e w11 ⟨v368,rfl,ho0,hb⟩;refine ⟨_,rfl,?_⟩;have n0_:=Aside0.mk (Kd.R_lower ho0 (below_size qz5));have n1_:=Aside0.mk (below_step qz5 hb);clear HB;have HO369:=n0_;have HB:=n1_;clear n0_ n1_;(try clear hb);(try clear hb2);(try clear hk);(try clear hi);(try clear ho0))|((with_reducible refine gate_callee (f:=5) rfl ?_);refine goesL_ (some 24) rfl rfl Tryz.func5 (by kernel_rfl) rfl #[.slice A1 l1.length c1] rfl qz4 ?_;(with_reducible refine (spec_DrawTrmRead.calls kj2 _ _ l1 t370 _ ?side1 ?side2 A7.out).mono ?_);(case side1=>repeat (first|exact (Kd.C_below HR1.out HB.out)|(with_reducible refine Kd.C_alloc ?_ _)|(with_reducible refine Kd.C_drewN ?_ _)|(with_reducible refine Kd.C_drew ?_)));(case side2=>exact HC1.out);rintro e w12 ⟨rfl,hb⟩;refine ⟨_,rfl,?_⟩;have n0_:=Aside0.mk (Kd.R_below qz28 hb);have n1_:=Aside0.mk (below_step qz5 hb);clear HO369 HB;have HO369:=n0_;have HB:=n1_;clear n0_ n1_;(try clear hb);(try clear hb2);(try clear hk);(try clear hi))|((with_reducible refine gate_callee (f:=6) rfl ?_);refine goesL_ (some 27) rfl rfl Tryz.func6 (by kernel_rfl) rfl #[.string t370] rfl qz4 ?_;(with_reducible refine (impl_TrmRead.calls (hE_:=HE_.out.below qz5) (hT_:=HT_.out.below qz5) kj2 t370 t371 t372 _ A8.out).mono ?_);rintro e w13 ⟨v373,rfl,ho0,hb⟩;refine ⟨_,rfl,?_⟩;have n0_:=Aside0.mk (Kd.R_elder' qz28 (Kd.R_base ho0) hb);have n1_:=Aside0.mk (Kd.R_lower (Kd.R_new' ho0 (Kd.R_lt qz28)) (below_size qz5));have n2_:=Aside0.mk (below_step qz5 hb);clear HO369 HB;have HO369:=n0_;have HO374:=n1_;have HB:=n2_;clear n0_ n1_ n2_;(try clear hb);(try clear hb2);(try clear hk);(try clear hi);(try clear ho0))|((with_reducible refine gate_callee (f:=7) rfl ?_);refine goesL_ (some 32) rfl rfl Tryz.func7 (by kernel_rfl) rfl #[.string t370] rfl qz4 ?_;(with_reducible refine (spec_TrmRead.calls kj2 t370 t375 t376 _ A9.out).mono ?_);rintro e w14 ⟨v377,rfl,ho0,hb⟩;refine ⟨_,rfl,?_⟩;have n0_:=Aside0.mk (Kd.R_elder' qz28 (Kd.R_base ho0) hb);have n1_:=Aside0.mk (Kd.R_elder' qz35 (Kd.R_base ho0) hb);have n2_:=Aside0.mk (Kd.R_lower (Kd.R_new' (Kd.R_new' ho0 (Kd.R_lt qz28)) (Kd.R_lt qz35)) (below_size qz5));have n3_:=Aside0.mk (below_step qz5 hb);clear HO369 HO374 HB;have HO369:=n0_;have HO374:=n1_;have HO378:=n2_;have HB:=n3_;clear n0_ n1_ n2_ n3_;(try clear hb);(try clear hb2);(try clear hk);(try clear hi);(try clear ho0)))
    (try simp only [Act.put,List.setIfInBounds_toArray,List.set_cons_zero,List.set_cons_succ])
    go_cut [57] (fun v57 wc=>∃ (kq:Nat) (x57_9:Bool),v57 = .bool x57_9∧Aside0 (laws_FnTrmText.j1 kq t367 t370 t371 t372 x57_9=some r)∧Aside0 (kq≤kj2)∧Aside0 (Kd.R k43 43 wc w.heap.size (fun k_=>some k_≠(v373:Value).ownBlock) v368 t367)∧Aside0 (Kd.R k43 43 wc w.heap.size (fun k_=>some k_≠(v368:Value).ownBlock) v373 t371)∧Aside0 (Below w.heap.size w wc))
    case first=>
     have H:=HC10.out
     clear HC10
     replace H:=Option.bind_eq_some_iff.mp H
     obtain ⟨t379,A150,H⟩:=H
     try dsimp only at H
     have A15:=Aside0.mk A150
     clear A150
     replace H:=Option.bind_eq_some_iff.mp H
     obtain ⟨t380,A160,H⟩:=H
     try dsimp only at H
     have A16:=Aside0.mk A160
     clear A160
     by_cases c17:t379.toList=t380.toList
     ·rw [if_pos c17] at H
      have c17b0:(t379.toList == t380.toList)=true:=beq_iff_eq.mpr c17
      have c17b1:(t379.toList != t380.toList)=false:=bne_eq_false_iff_eq.mpr c17
      clear c17
      (first|rw [c17b0]|rw [c17b1]|(simp only [i64_w,i32_w];rw [c17b0])|skip)
      replace H:=Option.bind_eq_some_iff.mp H
      obtain ⟨t381,A180,H⟩:=H
      try dsimp only at H
      have A18:=Aside0.mk A180
      clear A180
      by_cases c19:t381=true
      ·subst c19
       have H1:(if (t372 != t376)=true then (laws_FnTrmText.j1 kj2 t367 t370 t371 t372 true) else ((impl_TrmOk.f t367).bind fun t382=>((spec_TrmOk.f kj2 t367).bind fun t383=>(laws_FnTrmText.j1 kj2 t367 t370 t371 t372 (t382 != t383)))))=some r:=qz42
       clear H
       have H:=H1
       clear H1
       by_cases c20:(t372 != t376)=true
       ·rw [if_pos c20] at H
        have c20b0:(t372 != t376)=true:=c20
        (try (have c20b1:decide (t372=t376)=false:=by simpa using c20))
        (try (have c20b2:(t372 == t376)=false:=by simpa using c20))
        (try (have c20b3:¬ (t372=t376):=by simpa using c20))
        clear c20
        have H':=Aside0.mk H
        clear H
        obtain ⟨Ao21,co21,eo21⟩:=Kd.R_slice HO369.out
        subst eo21
        go_wp2_with (first|((with_reducible refine gate_callee (f:=8) rfl ?_);refine goesL_ (some 36) rfl rfl Tryz.func8 (by kernel_rfl) rfl #[.slice Ao21 t367.length co21] rfl qz4 ?_;(with_reducible refine (impl_TrmText.calls (hT_:=HT_.out.below qz5) kj2 _ _ t367 t379 _ ?side1 ?side2 A15.out).mono ?_);(case side1=>exact qz27);(case side2=>exact (Kd.R_reads' HO369.out).2.1);rintro e w22 ⟨rfl,hb⟩;refine ⟨_,rfl,?_⟩;have n0_:=Aside0.mk (Kd.R_below qz28 hb);have n1_:=Aside0.mk (Kd.R_below qz35 hb);have n2_:=Aside0.mk (Kd.R_below qz40 hb);have n3_:=Aside0.mk (below_step qz5 hb);clear HO369 HO374 HO378 HB;have HO369:=n0_;have HO374:=n1_;have HO378:=n2_;have HB:=n3_;clear n0_ n1_ n2_ n3_;(try clear hb);(try clear hb2);(try clear hk);(try clear hi))|((with_reducible refine gate_callee (f:=9) rfl ?_);refine goesL_ (some 38) rfl rfl Tryz.func9 (by kernel_rfl) rfl #[.slice Ao21 t367.length co21] rfl qz4 ?_;(with_reducible refine (spec_TrmText.calls kj2 _ _ t367 t380 _ ?side1 ?side2 A16.out).mono ?_);(case side1=>exact qz27);(case side2=>exact (Kd.R_reads' HO369.out).2.1);rintro e w23 ⟨rfl,hb⟩;refine ⟨_,rfl,?_⟩;have n0_:=Aside0.mk (Kd.R_below qz28 hb);have n1_:=Aside0.mk (Kd.R_below qz35 hb);have n2_:=Aside0.mk (Kd.R_below qz40 hb);have n3_:=Aside0.mk (below_step qz5 hb);clear HO369 HO374 HO378 HB;have HO369:=n0_;have HO374:=n1_;have HO378:=n2_;have HB:=n3_;clear n0_ n1_ n2_ n3_;(try clear hb);(try clear hb2);(try clear hk);(try clear hi);obtain ⟨Ao24,co24,eo24⟩:=Kd.R_slice HO374.out;subst eo24;obtain ⟨Ao25,co25,eo25⟩:=Kd.R_slice HO378.out;subst eo25)|(go_at_call 10;(with_reducible refine (laws_caTerm.calls kj2 _ _ t371 _ _ t375 true _ ?side1 ?side2 ?side3 ?side4 A18.out).mono ?_);(case side1=>exact qz59);(case side2=>exact (Kd.R_reads' HO374.out).2.1);(case side3=>exact qz58);(case side4=>exact (Kd.R_reads' HO378.out).2.1);rintro e w' ⟨rfl,⟨nd,rfl⟩⟩))
        go_meet
        case rel=>exact ⟨_,(true),qz9,H',⟨qz77⟩,⟨qz54⟩,⟨qz53⟩,⟨qz7⟩⟩
       ·rw [if_neg c20] at H
        have c20b0:(t372 != t376)=false:=by simpa using c20
        (try (have c20b1:decide (t372=t376)=true:=by simpa using c20))
        (try (have c20b2:(t372 == t376)=true:=by simpa using c20))
        clear c20
        replace H:=Option.bind_eq_some_iff.mp H
        obtain ⟨t382,A260,H⟩:=H
        try dsimp only at H
        have A26:=Aside0.mk A260
        clear A260
        replace H:=Option.bind_eq_some_iff.mp H
        obtain ⟨t383,A270,H⟩:=H
        try dsimp only at H
        have A27:=Aside0.mk A270
        clear A270
        have H':=Aside0.mk H
        clear H
        obtain ⟨Ao28,co28,eo28⟩:=Kd.R_slice HO369.out
        subst eo28
        go_wp2_with (first|((with_reducible refine gate_callee (f:=8) rfl ?_);refine goesL_ (some 36) rfl rfl Tryz.func8 (by kernel_rfl) rfl #[.slice Ao28 t367.length co28] rfl qz4 ?_;(with_reducible refine (impl_TrmText.calls (hT_:=HT_.out.below qz5) kj2 _ _ t367 t379 _ ?side1 ?side2 A15.out).mono ?_);(case side1=>exact qz27);(case side2=>exact (Kd.R_reads' HO369.out).2.1);rintro e w29 ⟨rfl,hb⟩;refine ⟨_,rfl,?_⟩;have n0_:=Aside0.mk (Kd.R_below qz28 hb);have n1_:=Aside0.mk (Kd.R_below qz35 hb);have n2_:=Aside0.mk (Kd.R_below qz40 hb);have n3_:=Aside0.mk (below_step qz5 hb);clear HO369 HO374 HO378 HB;have HO369:=n0_;have HO374:=n1_;have HO378:=n2_;have HB:=n3_;clear n0_ n1_ n2_ n3_;(try clear hb);(try clear hb2);(try clear hk);(try clear hi))|((with_reducible refine gate_callee (f:=9) rfl ?_);refine goesL_ (some 38) rfl rfl Tryz.func9 (by kernel_rfl) rfl #[.slice Ao28 t367.length co28] rfl qz4 ?_;(with_reducible refine (spec_TrmText.calls kj2 _ _ t367 t380 _ ?side1 ?side2 A16.out).mono ?_);(case side1=>exact qz27);(case side2=>exact (Kd.R_reads' HO369.out).2.1);rintro e w30 ⟨rfl,hb⟩;refine ⟨_,rfl,?_⟩;have n0_:=Aside0.mk (Kd.R_below qz28 hb);have n1_:=Aside0.mk (Kd.R_below qz35 hb);have n2_:=Aside0.mk (Kd.R_below qz40 hb);have n3_:=Aside0.mk (below_step qz5 hb);clear HO369 HO374 HO378 HB;have HO369:=n0_;have HO374:=n1_;have HO378:=n2_;have HB:=n3_;clear n0_ n1_ n2_ n3_;(try clear hb);(try clear hb2);(try clear hk);(try clear hi);obtain ⟨Ao31,co31,eo31⟩:=Kd.R_slice HO374.out;subst eo31;obtain ⟨Ao32,co32,eo32⟩:=Kd.R_slice HO378.out;subst eo32)|(go_at_call 10;(with_reducible refine (laws_caTerm.calls kj2 _ _ t371 _ _ t375 true _ ?side1 ?side2 ?side3 ?side4 A18.out).mono ?_);(case side1=>exact qz59);(case side2=>exact (Kd.R_reads' HO374.out).2.1);(case side3=>exact qz58);(case side4=>exact (Kd.R_reads' HO378.out).2.1);rintro e w' ⟨rfl,⟨nd,rfl⟩⟩)|(go_at_call 11;(with_reducible refine (impl_TrmOk.calls _ _ t367 t382 _ ?side1 ?side2 A26.out).mono ?_);(case side1=>exact qz27);(case side2=>exact (Kd.R_reads' HO369.out).2.1);rintro e w33 ⟨rfl,hb⟩;have n0_:=Aside0.mk (Kd.R_below qz28 hb);have n1_:=Aside0.mk (Kd.R_below qz35 hb);have n2_:=Aside0.mk (Kd.R_below qz40 hb);have n3_:=Aside0.mk (below_step qz5 hb);clear HO369 HO374 HO378 HB;have HO369:=n0_;have HO374:=n1_;have HO378:=n2_;have HB:=n3_;clear n0_ n1_ n2_ n3_;(try clear hb);(try clear hb2);(try clear hk);(try clear hi))|(go_at_call 12;(with_reducible refine (spec_TrmOk.calls kj2 _ _ t367 t383 _ ?side1 ?side2 A27.out).mono ?_);(case side1=>exact qz27);(case side2=>exact (Kd.R_reads' HO369.out).2.1);rintro e w34 ⟨rfl,hb⟩;have n0_:=Aside0.mk (Kd.R_below qz28 hb);have n1_:=Aside0.mk (Kd.R_below qz35 hb);have n2_:=Aside0.mk (Kd.R_below qz40 hb);have n3_:=Aside0.mk (below_step qz5 hb);clear HO369 HO374 HO378 HB;have HO369:=n0_;have HO374:=n1_;have HO378:=n2_;have HB:=n3_;clear n0_ n1_ n2_ n3_;(try clear hb);(try clear hb2);(try clear hk);(try clear hi)))
        go_meet
        case rel=>exact ⟨_,((t382 != t383)),qz9,H',⟨qz77⟩,⟨qz54⟩,⟨qz53⟩,⟨qz7⟩⟩
      ·replace c19:=Bool.eq_false_iff.mpr c19
       subst c19
       have H1:(laws_FnTrmText.j1 kj2 t367 t370 t371 t372 true)=some r:=qz26
       clear H
       have H:=H1
       clear H1
       have H':=Aside0.mk H
       clear H
       obtain ⟨Ao35,co35,eo35⟩:=Kd.R_slice HO369.out
       subst eo35
       go_wp2_with (first|((with_reducible refine gate_callee (f:=8) rfl ?_);refine goesL_ (some 36) rfl rfl Tryz.func8 (by kernel_rfl) rfl #[.slice Ao35 t367.length co35] rfl qz4 ?_;(with_reducible refine (impl_TrmText.calls (hT_:=HT_.out.below qz5) kj2 _ _ t367 t379 _ ?side1 ?side2 A15.out).mono ?_);(case side1=>exact qz27);(case side2=>exact (Kd.R_reads' HO369.out).2.1);rintro e w36 ⟨rfl,hb⟩;refine ⟨_,rfl,?_⟩;have n0_:=Aside0.mk (Kd.R_below qz28 hb);have n1_:=Aside0.mk (Kd.R_below qz35 hb);have n2_:=Aside0.mk (Kd.R_below qz40 hb);have n3_:=Aside0.mk (below_step qz5 hb);clear HO369 HO374 HO378 HB;have HO369:=n0_;have HO374:=n1_;have HO378:=n2_;have HB:=n3_;clear n0_ n1_ n2_ n3_;(try clear hb);(try clear hb2);(try clear hk);(try clear hi))|((with_reducible refine gate_callee (f:=9) rfl ?_);refine goesL_ (some 38) rfl rfl Tryz.func9 (by kernel_rfl) rfl #[.slice Ao35 t367.length co35] rfl qz4 ?_;(with_reducible refine (spec_TrmText.calls kj2 _ _ t367 t380 _ ?side1 ?side2 A16.out).mono ?_);(case side1=>exact qz27);(case side2=>exact (Kd.R_reads' HO369.out).2.1);rintro e w37 ⟨rfl,hb⟩;refine ⟨_,rfl,?_⟩;have n0_:=Aside0.mk (Kd.R_below qz28 hb);have n1_:=Aside0.mk (Kd.R_below qz35 hb);have n2_:=Aside0.mk (Kd.R_below qz40 hb);have n3_:=Aside0.mk (below_step qz5 hb);clear HO369 HO374 HO378 HB;have HO369:=n0_;have HO374:=n1_;have HO378:=n2_;have HB:=n3_;clear n0_ n1_ n2_ n3_;(try clear hb);(try clear hb2);(try clear hk);(try clear hi);obtain ⟨Ao38,co38,eo38⟩:=Kd.R_slice HO374.out;subst eo38;obtain ⟨Ao39,co39,eo39⟩:=Kd.R_slice HO378.out;subst eo39)|(go_at_call 10;(with_reducible refine (laws_caTerm.calls kj2 _ _ t371 _ _ t375 false _ ?side1 ?side2 ?side3 ?side4 A18.out).mono ?_);(case side1=>exact qz59);(case side2=>exact (Kd.R_reads' HO374.out).2.1);(case side3=>exact qz58);(case side4=>exact (Kd.R_reads' HO378.out).2.1);rintro e w' ⟨rfl,⟨nd,rfl⟩⟩))
       go_meet
       case rel=>exact ⟨_,(true),qz9,H',⟨qz77⟩,⟨qz54⟩,⟨qz53⟩,⟨qz7⟩⟩
     ·rw [if_neg c17] at H
      have c17b0:(t379.toList == t380.toList)=false:=beq_eq_false_iff_ne.mpr c17
      have c17b1:(t379.toList != t380.toList)=true:=bne_iff_ne.mpr c17
      (first|rw [c17b0]|rw [c17b1]|(simp only [i64_w,i32_w];rw [c17b0])|skip)
      have H':=Aside0.mk H
      clear H
      obtain ⟨Ao40,co40,eo40⟩:=Kd.R_slice HO369.out
      subst eo40
      go_wp2_with (first|((with_reducible refine gate_callee (f:=8) rfl ?_);refine goesL_ (some 36) rfl rfl Tryz.func8 (by kernel_rfl) rfl #[.slice Ao40 t367.length co40] rfl qz4 ?_;(with_reducible refine (impl_TrmText.calls (hT_:=HT_.out.below qz5) kj2 _ _ t367 t379 _ ?side1 ?side2 A15.out).mono ?_);(case side1=>exact qz27);(case side2=>exact (Kd.R_reads' HO369.out).2.1);rintro e w41 ⟨rfl,hb⟩;refine ⟨_,rfl,?_⟩;have n0_:=Aside0.mk (Kd.R_below qz28 hb);have n1_:=Aside0.mk (Kd.R_below qz35 hb);have n2_:=Aside0.mk (Kd.R_below qz40 hb);have n3_:=Aside0.mk (below_step qz5 hb);clear HO369 HO374 HO378 HB;have HO369:=n0_;have HO374:=n1_;have HO378:=n2_;have HB:=n3_;clear n0_ n1_ n2_ n3_;(try clear hb);(try clear hb2);(try clear hk);(try clear hi))|((with_reducible refine gate_callee (f:=9) rfl ?_);refine goesL_ (some 38) rfl rfl Tryz.func9 (by kernel_rfl) rfl #[.slice Ao40 t367.length co40] rfl qz4 ?_;(with_reducible refine (spec_TrmText.calls kj2 _ _ t367 t380 _ ?side1 ?side2 A16.out).mono ?_);(case side1=>exact qz27);(case side2=>exact (Kd.R_reads' HO369.out).2.1);rintro e w42 ⟨rfl,hb⟩;refine ⟨_,rfl,?_⟩;have n0_:=Aside0.mk (Kd.R_below qz28 hb);have n1_:=Aside0.mk (Kd.R_below qz35 hb);have n2_:=Aside0.mk (Kd.R_below qz40 hb);have n3_:=Aside0.mk (below_step qz5 hb);clear HO369 HO374 HO378 HB;have HO369:=n0_;have HO374:=n1_;have HO378:=n2_;have HB:=n3_;clear n0_ n1_ n2_ n3_;(try clear hb);(try clear hb2);(try clear hk);(try clear hi)))
      go_meet
      case rel=>exact ⟨_,(true),qz9,H',⟨qz77⟩,⟨qz54⟩,⟨qz53⟩,⟨qz7⟩⟩
    case rest=>
     clear HC10
     try clear c1
     try clear c2
     try clear p2
     try clear c3
     try clear c4
     try clear c4b0
     try clear c4b1
     try clear c5
     try clear c6
     try clear c7
     try clear c8
     try clear c9
     try clear c17
     try clear c17b0
     try clear c17b1
     try clear c19
     try clear c20
     try clear c20b0
     try clear c20b1
     try clear c20b2
     try clear p2
     obtain ⟨kq,x57_9,rfl,HA,HJ9,HO_5,HO_7,HB⟩:=hcut
     cases kq with
     | zero=>exact absurd HA.out (by simp [laws_FnTrmText.j1])
     | succ kj9=>
      have H:=HA.out
      clear HA
      simp only [laws_FnTrmText.j1] at H
      by_cases c43:x57_9=true
      ·subst c43
       have H1:(some false)=some r:=qz42
       clear H
       have H:=H1
       clear H1
       obtain rfl:=Option.some.inj H
       go_wp2
       go_ret
       exact ⟨qz8,qz7⟩
      ·replace c43:=Bool.eq_false_iff.mpr c43
       subst c43
       have H1:(if t372=true then ((impl_TrmOk.f t371).bind fun t384=>(if t384=true then ((impl_TrmText.f kj9 t371).bind fun t385=>(laws_FnTrmText.j2 kj9 t367 (t385.toList != t370.toList))) else (laws_FnTrmText.j2 kj9 t367 true))) else (laws_FnTrmText.j2 kj9 t367 false))=some r:=qz26
       clear H
       have H:=H1
       clear H1
       have HC44:=Aside0.mk H
       clear H
       go_upto_region 9 with (fail)
       go_cut [69] (fun v69 wc=>∃ (kq:Nat) (x69_43:Bool),v69 = .bool x69_43∧Aside0 (laws_FnTrmText.j2 kq t367 x69_43=some r)∧Aside0 (kq≤kj9)∧Aside0 (Kd.R k43 43 wc w.heap.size (fun _=>True) v368 t367)∧Aside0 (Below w.heap.size w wc))
       case first=>
        have H:=HC44.out
        clear HC44
        by_cases c45:t372=true
        ·subst c45
         have H1:((impl_TrmOk.f t371).bind fun t384=>(if t384=true then ((impl_TrmText.f kj9 t371).bind fun t385=>(laws_FnTrmText.j2 kj9 t367 (t385.toList != t370.toList))) else (laws_FnTrmText.j2 kj9 t367 true)))=some r:=qz42
         clear H
         have H:=H1
         clear H1
         replace H:=Option.bind_eq_some_iff.mp H
         obtain ⟨t384,A460,H⟩:=H
         try dsimp only at H
         have A46:=Aside0.mk A460
         clear A460
         by_cases c47:t384=true
         ·subst c47
          have H1:((impl_TrmText.f kj9 t371).bind fun t385=>(laws_FnTrmText.j2 kj9 t367 (t385.toList != t370.toList)))=some r:=qz42
          clear H
          have H:=H1
          clear H1
          replace H:=Option.bind_eq_some_iff.mp H
          obtain ⟨t385,A480,H⟩:=H
          try dsimp only at H
          have A48:=Aside0.mk A480
          clear A480
          have H':=Aside0.mk H
          clear H
          obtain ⟨Ao49,co49,eo49⟩:=Kd.R_slice HO_7.out
          subst eo49
          go_wp2_with (first|(go_at_call 11;(with_reducible refine (impl_TrmOk.calls _ _ t371 true _ ?side1 ?side2 A46.out).mono ?_);(case side1=>exact qz61);(case side2=>exact (Kd.R_reads' HO_7.out).2.1);rintro e w50 ⟨rfl,hb⟩;have n0_:=Aside0.mk (Kd.R_below qz11 hb);have n1_:=Aside0.mk (Kd.R_below qz36 hb);have n2_:=Aside0.mk (below_step qz5 hb);clear HO_5 HO_7 HB;have HO_5:=n0_;have HO_7:=n1_;have HB:=n2_;clear n0_ n1_ n2_;(try clear hb);(try clear hb2);(try clear hk);(try clear hi))|(go_at_call 8;(with_reducible refine (impl_TrmText.calls (hT_:=HT_.out.below qz5) kj9 _ _ t371 t385 _ ?side1 ?side2 A48.out).mono ?_);(case side1=>exact qz61);(case side2=>exact (Kd.R_reads' HO_7.out).2.1);rintro e w51 ⟨rfl,hb⟩;have n0_:=Aside0.mk (Kd.R_below qz11 hb);have n1_:=Aside0.mk (Kd.R_below qz36 hb);have n2_:=Aside0.mk (below_step qz5 hb);clear HO_5 HO_7 HB;have HO_5:=n0_;have HO_7:=n1_;have HB:=n2_;clear n0_ n1_ n2_;(try clear hb);(try clear hb2);(try clear hk);(try clear hi)))
          go_meet
          case rel=>exact ⟨_,((t385.toList != t370.toList)),qz9,H',⟨qz79⟩,⟨qz64⟩,⟨qz7⟩⟩
         ·replace c47:=Bool.eq_false_iff.mpr c47
          subst c47
          have H1:(laws_FnTrmText.j2 kj9 t367 true)=some r:=qz26
          clear H
          have H:=H1
          clear H1
          have H':=Aside0.mk H
          clear H
          obtain ⟨Ao52,co52,eo52⟩:=Kd.R_slice HO_7.out
          subst eo52
          go_wp2_with (first|(go_at_call 11;(with_reducible refine (impl_TrmOk.calls _ _ t371 false _ ?side1 ?side2 A46.out).mono ?_);(case side1=>exact qz61);(case side2=>exact (Kd.R_reads' HO_7.out).2.1);rintro e w53 ⟨rfl,hb⟩;have n0_:=Aside0.mk (Kd.R_below qz11 hb);have n1_:=Aside0.mk (Kd.R_below qz36 hb);have n2_:=Aside0.mk (below_step qz5 hb);clear HO_5 HO_7 HB;have HO_5:=n0_;have HO_7:=n1_;have HB:=n2_;clear n0_ n1_ n2_;(try clear hb);(try clear hb2);(try clear hk);(try clear hi)))
          go_meet
          case rel=>exact ⟨_,(true),qz9,H',⟨qz79⟩,⟨qz64⟩,⟨qz7⟩⟩
        ·replace c45:=Bool.eq_false_iff.mpr c45
         subst c45
         have H1:(laws_FnTrmText.j2 kj9 t367 false)=some r:=qz26
         clear H
         have H:=H1
         clear H1
         have H':=Aside0.mk H
         clear H
         go_wp2
         go_meet
         case rel=>exact ⟨_,(false),qz9,H',⟨qz79⟩,⟨qz64⟩,⟨qz7⟩⟩
       case rest=>
        clear HC44
        try clear c1
        try clear c2
        try clear p2
        try clear c3
        try clear c4
        try clear c4b0
        try clear c4b1
        try clear c5
        try clear c6
        try clear c7
        try clear c8
        try clear c9
        try clear c17
        try clear c17b0
        try clear c17b1
        try clear c19
        try clear c20
        try clear c20b0
        try clear c20b1
        try clear c20b2
        try clear c43
        try clear c45
        try clear c47
        try clear p2
        obtain ⟨kq,x69_43,rfl,HA,HJ43,HO_5,HB⟩:=hcut
        cases kq with
        | zero=>exact absurd HA.out (by simp [laws_FnTrmText.j2])
        | succ kj43=>
         have H:=HA.out
         clear HA
         simp only [laws_FnTrmText.j2] at H
         by_cases c54:x69_43=true
         ·subst c54
          have H1:(some false)=some r:=qz42
          clear H
          have H:=H1
          clear H1
          obtain rfl:=Option.some.inj H
          go_wp2
          go_ret
          exact ⟨qz8,qz7⟩
         ·replace c54:=Bool.eq_false_iff.mpr c54
          subst c54
          have H1:((spec_TrmOk.f kj43 t367).bind fun t386=>(if t386=true then ((impl_TrmText.f kj43 t367).bind fun t389=>((impl_TrmRead.f kj43 t389).bind fun bt390=>(if bt390.2=true then ((laws_caTerm.f kj43 bt390.1 t367).bind fun t394=>(some t394)) else (some false)))) else ((impl_TrmText.f kj43 t367).bind fun t387=>(if t387.toList=([]:List UInt8) then ((laws_caOk.f).bind fun t388=>(some t388)) else (some false)))))=some r:=qz26
          clear H
          have H:=H1
          clear H1
          replace H:=Option.bind_eq_some_iff.mp H
          obtain ⟨t386,A550,H⟩:=H
          try dsimp only at H
          have A55:=Aside0.mk A550
          clear A550
          by_cases c56:t386=true
          ·subst c56
           have H1:((impl_TrmText.f kj43 t367).bind fun t389=>((impl_TrmRead.f kj43 t389).bind fun bt390=>(if bt390.2=true then ((laws_caTerm.f kj43 bt390.1 t367).bind fun t394=>(some t394)) else (some false))))=some r:=qz42
           clear H
           have H:=H1
           clear H1
           replace H:=Option.bind_eq_some_iff.mp H
           obtain ⟨t389,A570,H⟩:=H
           try dsimp only at H
           have A57:=Aside0.mk A570
           clear A570
           replace H:=Option.bind_eq_some_iff.mp H
           obtain ⟨⟨t390,t391⟩,A580,H⟩:=H
           try dsimp only at H
           have A58:=Aside0.mk A580
           clear A580
           by_cases c59:t391=true
           ·subst c59
            have H1:((laws_caTerm.f kj43 t390 t367).bind fun t394=>(some t394))=some r:=qz42
            clear H
            have H:=H1
            clear H1
            replace H:=Option.bind_eq_some_iff.mp H
            obtain ⟨t394,A600,H⟩:=H
            try dsimp only at H
            have A60:=Aside0.mk A600
            clear A600
            obtain rfl:=Option.some.inj H
            obtain ⟨Ao61,co61,eo61⟩:=Kd.R_slice HO_5.out
            subst eo61
            go_wp2_with (first|((with_reducible refine gate_callee (f:=12) rfl ?_);refine goesL_ (some 71) rfl rfl Tryz.func12 (by kernel_rfl) rfl #[.slice Ao61 t367.length co61] rfl qz4 ?_;(with_reducible refine (spec_TrmOk.calls kj43 _ _ t367 true _ ?side1 ?side2 A55.out).mono ?_);(case side1=>exact qz31);(case side2=>exact (Kd.R_reads' HO_5.out).2.1);rintro e w62 ⟨rfl,hb⟩;refine ⟨_,rfl,?_⟩;have n0_:=Aside0.mk (Kd.R_below qz11 hb);have n1_:=Aside0.mk (below_step qz5 hb);clear HO_5 HB;have HO_5:=n0_;have HB:=n1_;clear n0_ n1_;(try clear hb);(try clear hb2);(try clear hk);(try clear hi))|((with_reducible refine gate_callee (f:=8) rfl ?_);refine goesL_ (some 81) rfl rfl Tryz.func8 (by kernel_rfl) rfl #[.slice Ao61 t367.length co61] rfl qz4 ?_;(with_reducible refine (impl_TrmText.calls (hT_:=HT_.out.below qz5) kj43 _ _ t367 t389 _ ?side1 ?side2 A57.out).mono ?_);(case side1=>exact qz31);(case side2=>exact (Kd.R_reads' HO_5.out).2.1);rintro e w63 ⟨rfl,hb⟩;refine ⟨_,rfl,?_⟩;have n0_:=Aside0.mk (Kd.R_below qz11 hb);have n1_:=Aside0.mk (below_step qz5 hb);clear HO_5 HB;have HO_5:=n0_;have HB:=n1_;clear n0_ n1_;(try clear hb);(try clear hb2);(try clear hk);(try clear hi))|((with_reducible refine gate_callee (f:=6) rfl ?_);refine goesL_ (some 82) rfl rfl Tryz.func6 (by kernel_rfl) rfl #[.string t389] rfl qz4 ?_;(with_reducible refine (impl_TrmRead.calls (hE_:=HE_.out.below qz5) (hT_:=HT_.out.below qz5) kj43 t389 t390 true _ A58.out).mono ?_);rintro e w64 ⟨v392,rfl,ho0,hb⟩;refine ⟨_,rfl,?_⟩;have n0_:=Aside0.mk (Kd.R_elder' qz11 (Kd.R_base ho0) hb);have n1_:=Aside0.mk (Kd.R_lower (Kd.R_new' ho0 (Kd.R_lt qz11)) (below_size qz5));have n2_:=Aside0.mk (below_step qz5 hb);clear HO_5 HB;have HO_5:=n0_;have HO393:=n1_;have HB:=n2_;clear n0_ n1_ n2_;(try clear hb);(try clear hb2);(try clear hk);(try clear hi);(try clear ho0);obtain ⟨Ao65,co65,eo65⟩:=Kd.R_slice HO393.out;subst eo65)|(go_at_call 10;(with_reducible refine (laws_caTerm.calls kj43 _ _ t390 _ _ t367 t394 _ ?side1 ?side2 ?side3 ?side4 A60.out).mono ?_);(case side1=>repeat (first|exact (Kd.R_reads' HO393.out).2.2|(with_reducible refine Kd.C_alloc ?_ _)|(with_reducible refine Kd.C_drewN ?_ _)|(with_reducible refine Kd.C_drew ?_)));(case side2=>exact (Kd.R_reads' HO393.out).2.1);(case side3=>exact qz31);(case side4=>exact (Kd.R_reads' HO_5.out).2.1);rintro e w' ⟨rfl,⟨nd,rfl⟩⟩))
            go_ret
            exact ⟨qz8,qz7⟩
           ·replace c59:=Bool.eq_false_iff.mpr c59
            subst c59
            have H1:(some false)=some r:=qz26
            clear H
            have H:=H1
            clear H1
            obtain rfl:=Option.some.inj H
            obtain ⟨Ao66,co66,eo66⟩:=Kd.R_slice HO_5.out
            subst eo66
            go_wp2_with (first|((with_reducible refine gate_callee (f:=12) rfl ?_);refine goesL_ (some 71) rfl rfl Tryz.func12 (by kernel_rfl) rfl #[.slice Ao66 t367.length co66] rfl qz4 ?_;(with_reducible refine (spec_TrmOk.calls kj43 _ _ t367 true _ ?side1 ?side2 A55.out).mono ?_);(case side1=>exact qz31);(case side2=>exact (Kd.R_reads' HO_5.out).2.1);rintro e w67 ⟨rfl,hb⟩;refine ⟨_,rfl,?_⟩;have n0_:=Aside0.mk (Kd.R_below qz11 hb);have n1_:=Aside0.mk (below_step qz5 hb);clear HO_5 HB;have HO_5:=n0_;have HB:=n1_;clear n0_ n1_;(try clear hb);(try clear hb2);(try clear hk);(try clear hi))|((with_reducible refine gate_callee (f:=8) rfl ?_);refine goesL_ (some 81) rfl rfl Tryz.func8 (by kernel_rfl) rfl #[.slice Ao66 t367.length co66] rfl qz4 ?_;(with_reducible refine (impl_TrmText.calls (hT_:=HT_.out.below qz5) kj43 _ _ t367 t389 _ ?side1 ?side2 A57.out).mono ?_);(case side1=>exact qz31);(case side2=>exact (Kd.R_reads' HO_5.out).2.1);rintro e w68 ⟨rfl,hb⟩;refine ⟨_,rfl,?_⟩;have n0_:=Aside0.mk (Kd.R_below qz11 hb);have n1_:=Aside0.mk (below_step qz5 hb);clear HO_5 HB;have HO_5:=n0_;have HB:=n1_;clear n0_ n1_;(try clear hb);(try clear hb2);(try clear hk);(try clear hi))|((with_reducible refine gate_callee (f:=6) rfl ?_);refine goesL_ (some 82) rfl rfl Tryz.func6 (by kernel_rfl) rfl #[.string t389] rfl qz4 ?_;(with_reducible refine (impl_TrmRead.calls (hE_:=HE_.out.below qz5) (hT_:=HT_.out.below qz5) kj43 t389 t390 false _ A58.out).mono ?_);rintro e w69 ⟨v392,rfl,ho0,hb⟩;refine ⟨_,rfl,?_⟩;have n0_:=Aside0.mk (Kd.R_elder' qz11 (Kd.R_base ho0) hb);have n1_:=Aside0.mk (Kd.R_lower (Kd.R_new' ho0 (Kd.R_lt qz11)) (below_size qz5));have n2_:=Aside0.mk (below_step qz5 hb);clear HO_5 HB;have HO_5:=n0_;have HO393:=n1_;have HB:=n2_;clear n0_ n1_ n2_;(try clear hb);(try clear hb2);(try clear hk);(try clear hi);(try clear ho0)))
            go_ret
            exact ⟨qz8,qz7⟩
          ·replace c56:=Bool.eq_false_iff.mpr c56
           subst c56
           have H1:((impl_TrmText.f kj43 t367).bind fun t387=>(if t387.toList=([]:List UInt8) then ((laws_caOk.f).bind fun t388=>(some t388)) else (some false)))=some r:=qz26
           clear H
           have H:=H1
           clear H1
           replace H:=Option.bind_eq_some_iff.mp H
           obtain ⟨t387,A700,H⟩:=H
           try dsimp only at H
           have A70:=Aside0.mk A700
           clear A700
           by_cases c71:t387.toList=([]:List UInt8)
           ·rw [if_pos c71] at H
            have c71b0:(t387.toList == ([]:List UInt8))=true:=beq_iff_eq.mpr c71
            have c71b1:(t387.toList != ([]:List UInt8))=false:=bne_eq_false_iff_eq.mpr c71
            clear c71
            replace H:=Option.bind_eq_some_iff.mp H
            obtain ⟨t388,A720,H⟩:=H
            try dsimp only at H
            have A72:=Aside0.mk A720
            clear A720
            obtain rfl:=Option.some.inj H
            obtain ⟨Ao73,co73,eo73⟩:=Kd.R_slice HO_5.out
            subst eo73
            go_wp2_with (first|((with_reducible refine gate_callee (f:=12) rfl ?_);refine goesL_ (some 71) rfl rfl Tryz.func12 (by kernel_rfl) rfl #[.slice Ao73 t367.length co73] rfl qz4 ?_;(with_reducible refine (spec_TrmOk.calls kj43 _ _ t367 false _ ?side1 ?side2 A55.out).mono ?_);(case side1=>exact qz31);(case side2=>exact (Kd.R_reads' HO_5.out).2.1);rintro e w74 ⟨rfl,hb⟩;refine ⟨_,rfl,?_⟩;have n0_:=Aside0.mk (Kd.R_below qz11 hb);have n1_:=Aside0.mk (below_step qz5 hb);clear HO_5 HB;have HO_5:=n0_;have HB:=n1_;clear n0_ n1_;(try clear hb);(try clear hb2);(try clear hk);(try clear hi))|((with_reducible refine gate_callee (f:=8) rfl ?_);refine goesL_ (some 74) rfl rfl Tryz.func8 (by kernel_rfl) rfl #[.slice Ao73 t367.length co73] rfl qz4 ?_;(with_reducible refine (impl_TrmText.calls (hT_:=HT_.out.below qz5) kj43 _ _ t367 t387 _ ?side1 ?side2 A70.out).mono ?_);(case side1=>exact qz31);(case side2=>exact (Kd.R_reads' HO_5.out).2.1);rintro e w75 ⟨rfl,hb⟩;refine ⟨_,rfl,?_⟩;have n0_:=Aside0.mk (Kd.R_below qz11 hb);have n1_:=Aside0.mk (below_step qz5 hb);clear HO_5 HB;have HO_5:=n0_;have HB:=n1_;clear n0_ n1_;(try clear hb);(try clear hb2);(try clear hk);(try clear hi))|(go_at_call 13;(with_reducible refine (laws_caOk.calls  t388 _ A72.out).mono ?_);rintro e w76 ⟨rfl,hb⟩;have n0_:=Aside0.mk (Kd.R_below qz11 hb);have n1_:=Aside0.mk (below_step qz5 hb);clear HO_5 HB;have HO_5:=n0_;have HB:=n1_;clear n0_ n1_;(try clear hb);(try clear hb2);(try clear hk);(try clear hi)))
            go_ret
            exact ⟨qz8,qz7⟩
           ·rw [if_neg c71] at H
            have c71b0:(t387.toList == ([]:List UInt8))=false:=beq_eq_false_iff_ne.mpr c71
            have c71b1:(t387.toList != ([]:List UInt8))=true:=bne_iff_ne.mpr c71
            obtain rfl:=Option.some.inj H
            obtain ⟨Ao77,co77,eo77⟩:=Kd.R_slice HO_5.out
            subst eo77
            go_wp2_with (first|((with_reducible refine gate_callee (f:=12) rfl ?_);refine goesL_ (some 71) rfl rfl Tryz.func12 (by kernel_rfl) rfl #[.slice Ao77 t367.length co77] rfl qz4 ?_;(with_reducible refine (spec_TrmOk.calls kj43 _ _ t367 false _ ?side1 ?side2 A55.out).mono ?_);(case side1=>exact qz31);(case side2=>exact (Kd.R_reads' HO_5.out).2.1);rintro e w78 ⟨rfl,hb⟩;refine ⟨_,rfl,?_⟩;have n0_:=Aside0.mk (Kd.R_below qz11 hb);have n1_:=Aside0.mk (below_step qz5 hb);clear HO_5 HB;have HO_5:=n0_;have HB:=n1_;clear n0_ n1_;(try clear hb);(try clear hb2);(try clear hk);(try clear hi))|((with_reducible refine gate_callee (f:=8) rfl ?_);refine goesL_ (some 74) rfl rfl Tryz.func8 (by kernel_rfl) rfl #[.slice Ao77 t367.length co77] rfl qz4 ?_;(with_reducible refine (impl_TrmText.calls (hT_:=HT_.out.below qz5) kj43 _ _ t367 t387 _ ?side1 ?side2 A70.out).mono ?_);(case side1=>exact qz31);(case side2=>exact (Kd.R_reads' HO_5.out).2.1);rintro e w79 ⟨rfl,hb⟩;refine ⟨_,rfl,?_⟩;have n0_:=Aside0.mk (Kd.R_below qz11 hb);have n1_:=Aside0.mk (below_step qz5 hb);clear HO_5 HB;have HO_5:=n0_;have HB:=n1_;clear n0_ n1_;(try clear hb);(try clear hb2);(try clear hk);(try clear hi)))
            go_ret
            exact ⟨qz8,qz7⟩

end Go.Proofs.YtibencknfheplaaGreatDoor.P
