/- Contracts of functions of the program: each as a Lean function, and that its call does what that says; printed by cprint.py (this session) over print.py of the kit. Conditions: the hypotheses of each theorem. -/
import Derived.Test.YtlaicnoikeieeaaDoorVZ
import Derived.Test.YtlaicnoikeieeaaDoorP0
import Derived.Test.YtlaicnoikeieeaaDoorP2
import Derived.Test.YtlaicnoikeieeaaDoorP3
import Derived.Test.YtlaicnoikeieeaaDoorP8
import Derived.Test.YtlaicnoikeieeaaDoorP10
import Derived.Test.YtlaicnoikeieeaaDoorP15
import Derived.Test.YtlaicnoikeieeaaDoorP19
namespace Go.Proofs.YtlaicnoikeieeaaDoor.P
open Go.RowKit Go.Proofs.YtlaicnoikeieeaaDoorW.PrintWords Go.Proofs.YtlaicnoikeieeaaDoorW.PrintLast Go.Proofs.YtlaicnoikeieeaaDoorW.PrintMore
attribute [local go_sem] max2_int min2_int max_two min_two max_three min_three max_four min_four   -- for this text's walks alone
set_option linter.unusedVariables false
set_option linter.unusedSimpArgs false

/-! ### laws_FnSubFull: function 8 -/
mutual
def laws_FnSubFull.j0:Nat→List (S30)→List (S46)→Bool→Bool→Option (Bool)
 | 0,_,_,_,_=>none
 | k+1,x3,x5,x6,x46=>if x46=true then (some false) else (if x6=true then ((impl_SubFull.f k x3 x5).bind fun bt486=>(if bt486.2=true then ((laws_caTerm.f k bt486.1 x5).bind fun t490=>(if t490=true then ((impl_TrmOk.f x5).bind fun t491=>(laws_FnSubFull.j1 k x3 x5 (!t491))) else (laws_FnSubFull.j1 k x3 x5 true))) else (laws_FnSubFull.j1 k x3 x5 true))) else (if (x5.length:Int)=0 then ((laws_caOk.f).bind fun t485=>(some t485)) else (some false)))
def laws_FnSubFull.j1:Nat→List (S30)→List (S46)→Bool→Option (Bool)
 | 0,_,_,_=>none
 | k+1,x3,x5,x73=>if x73=true then (some false) else ((impl_TrmFree.f k x5).bind fun t492=>(laws_FnSubFull.l0 k x3 t492 0))
def laws_FnSubFull.l0:Nat→List (S30)→List Int→Int→Option (Bool)
 | 0,_,_,_=>none
 | k+1,x3,x11,x12=>if x12<(x11.length:Int) then (if 0≤x12 then ((impl_SubGet.f x3 (rd x11 x12)).bind fun t496=>(if (t496.length:Int) > 0 then (some false) else (laws_FnSubFull.l0 k x3 x11 (wrap64 (x12+1))))) else (none)) else (laws_FnSubFull.l1 k x3 0)
def laws_FnSubFull.l1:Nat→List (S30)→Int→Option (Bool)
 | 0,_,_=>none
 | k+1,x3,x13=>if x13<(x3.length:Int) then (if 0≤x13 then ((impl_SubFull.f k x3 (([(⟨1,(rd_T30 x3 x13).f0,(⟨#[]⟩:ByteArray)⟩:S46)]:List (S46)))).bind fun bt503=>((impl_SubFull.f k x3 ((rd_T30 x3 x13).f1)).bind fun bt508=>(if (bt503.2 != bt508.2)=true then (laws_FnSubFull.j4 k x3 x13 true) else ((laws_caTerm.f k bt503.1 bt508.1).bind fun t512=>(if t512=true then ((impl_SubGet.f x3 ((rd_T30 x3 x13).f0)).bind fun t514=>((laws_caTerm.f k t514 ((rd_T30 x3 x13).f1)).bind fun t518=>(laws_FnSubFull.j4 k x3 x13 (!t518)))) else (laws_FnSubFull.j4 k x3 x13 true)))))) else (none)) else (some true)
def laws_FnSubFull.j4:Nat→List (S30)→Int→Bool→Option (Bool)
 | 0,_,_,_=>none
 | k+1,x3,x13,x142=>if x142=true then (some false) else (laws_FnSubFull.l1 k x3 (wrap64 (x13+1)))
end
def laws_FnSubFull.f (k:Nat) (l0:List Int):Option (Bool):=if (l0.length:Int) > 1048576 then (some true) else ((spec_DrawSubFull.f k l0).bind fun bt470=>((impl_SubFull.f k bt470.1 bt470.2).bind fun bt476=>((spec_SubFull.f k bt470.1 bt470.2).bind fun bt480=>((laws_caTerm.f k bt476.1 bt480.1).bind fun t484=>(if t484=true then (laws_FnSubFull.j0 k bt470.1 bt476.1 bt476.2 (bt476.2 != bt480.2)) else (laws_FnSubFull.j0 k bt470.1 bt476.1 bt476.2 true))))))
def laws_FnSubFull.T24:Bool × List (List Nat × List Nat):=(true,[([],[]),([],[]),([0,1],[0,1]),([2],[2]),([3],[3]),([3],[3]),([4,5,3,3],[3,4,5]),([6,3],[3,6]),([3,7],[3,7]),([8,6],[8]),([9],[9]),([9],[9]),([9],[9]),([11,12,9],[9,11,12]),([13,9],[9,13]),([14,9],[9,14]),([10,15,9,9],[9,10,15]),([9],[9]),([9],[9]),([17,18,9],[9,17,18]),([19,9],[9,19]),([20,9],[9,20]),([16,21,16,9],[9,16,21]),([22,9],[9,22]),([9,23],[9,23])])
def laws_FnSubFull.B24:List Nat:=[0,0,3,7,15,15,63,127,255,511,1023,1023,1023,7167,15359,31743,65535,1023,1023,394239,918527,1967103,4194303,8388607,16777215]
theorem laws_FnSubFull.tab24:rtab .any (opsOf Tryd.f8 24)=laws_FnSubFull.T24:=by kernel_rfl
theorem laws_FnSubFull.bits24:waitsOk laws_FnSubFull.T24.2 laws_FnSubFull.B24=true:=by kernel_rfl
set_option maxHeartbeats 8000000 in
set_option maxRecDepth 100000 in
theorem laws_FnSubFull.calls (k:Nat) (A0:Option Addr) (c0:Nat) (l0:List Int) (r:Bool) (w:World) (hr0:Kd.C (Kd.int .u8) w A0 l0.length l0) (hc0:l0.length≤c0) (h:laws_FnSubFull.f k l0=some r) :
  Calls Tryd.prog 8 #[.slice A0 l0.length c0] w fun e w'=>e = .returned (.bool r)∧Below w.heap.size w w':=by
 have hu46:=Tryd.underlying46
 have HR0:=Aside0.mk hr0
 have HC0:=Aside0.mk hc0
 clear hr0 hc0
 have HB:=Aside0.mk (Below.refl w.heap.size w)
 have H:(if (l0.length:Int) > 1048576 then (some true) else ((spec_DrawSubFull.f k l0).bind fun bt470=>((impl_SubFull.f k bt470.1 bt470.2).bind fun bt476=>((spec_SubFull.f k bt470.1 bt470.2).bind fun bt480=>((laws_caTerm.f k bt476.1 bt480.1).bind fun t484=>(if t484=true then (laws_FnSubFull.j0 k bt470.1 bt476.1 bt476.2 (bt476.2 != bt480.2)) else (laws_FnSubFull.j0 k bt470.1 bt476.1 bt476.2 true)))))))=some r:=h
 clear h
 by_cases c2:(l0.length:Int) > 1048576
 ·rw [if_pos c2] at H
  have c2b0:decide (1048576<(l0.length:Int))=true:=decide_eq_true c2
  have c2b1:decide (1048576<l0.length)=true:=decide_eq_true (by omega)
  clear c2
  obtain rfl:=Option.some.inj H
  go_enter Tryd.func8,Tryd.ntmps8
  go_wp2
  go_ret
  exact ⟨qz7,qz5⟩
 ·rw [if_neg c2] at H
  have c2b0:decide (1048576<(l0.length:Int))=false:=decide_eq_false c2
  have c2b1:decide (1048576<l0.length)=false:=decide_eq_false (by omega)
  clear c2
  replace H:=Option.bind_eq_some_iff.mp H
  obtain ⟨⟨t470,t471⟩,A30,H⟩:=H
  try dsimp only at H
  have A3:=Aside0.mk A30
  clear A30
  replace H:=Option.bind_eq_some_iff.mp H
  obtain ⟨⟨t476,t477⟩,A40,H⟩:=H
  try dsimp only at H
  have A4:=Aside0.mk A40
  clear A40
  replace H:=Option.bind_eq_some_iff.mp H
  obtain ⟨⟨t480,t481⟩,A50,H⟩:=H
  try dsimp only at H
  have A5:=Aside0.mk A50
  clear A50
  have HC6:=Aside0.mk H
  clear H
  go_enter Tryd.func8,Tryd.ntmps8
  go_upto_region 6 with (first|(go_at_call 41;(with_reducible refine (spec_DrawSubFull.calls k _ _ l0 t470 t471 _ ?side1 ?side2 A3.out).mono ?_);(case side1=>exact qz28);(case side2=>exact HC0.out);rintro e w7 ⟨v472,v474,rfl,ho0,ho1,hb⟩;have n0_:=Aside0.mk (Kd.S_lower (Kd.S_mono (ok':=fun _=>True) ho0 (fun _ _=>trivial)) (below_size qz4));have n1_:=Aside0.mk (Kd.R_lower ho1 (below_size qz4));have n2_:=Aside0.mk (below_step qz4 hb);clear HB;have HO473:=n0_;have HO475:=n1_;have HB:=n2_;clear n0_ n1_ n2_;(try clear hb);(try clear hb2);(try clear hk);(try clear hi);(try clear ho0);(try clear ho1);obtain ⟨Ao8,co8,eo8⟩:=Kd.S_slice HO473.out;subst eo8;obtain ⟨Ao9,co9,eo9⟩:=Kd.R_slice HO475.out;subst eo9)|(go_at_call 36;(with_reducible refine (impl_SubFull.calls k _ _ t470 _ _ t471 t476 t477 _ ?side1 ?side2 ?side3 ?side4 A4.out).mono ?_);(case side1=>exact qz73);(case side2=>exact (Kd.S_reads' HO473.out).2.1);(case side3=>exact qz79);(case side4=>exact (Kd.R_reads' HO475.out).2.1);rintro e w10 ⟨v478,rfl,ho0,hb⟩;have n0_:=Aside0.mk (Kd.S_below qz60 hb);have n1_:=Aside0.mk (Kd.R_below (by (with_reducible repeat (first|apply Kd.R_alloc|apply Kd.R_drewN|apply Kd.R_drew));exact HO475.out) hb);have n2_:=Aside0.mk (Kd.R_lower ho0 (below_size qz4));have n3_:=Aside0.mk (below_step qz4 hb);clear HO473 HO475 HB;have HO473:=n0_;have HO475:=n1_;have HO479:=n2_;have HB:=n3_;clear n0_ n1_ n2_ n3_;(try clear hb);(try clear hb2);(try clear hk);(try clear hi);(try clear ho0))|(go_at_call 34;(with_reducible refine (spec_SubFull.calls k _ _ t470 _ _ t471 t480 t481 _ ?side1 ?side2 ?side3 ?side4 A5.out).mono ?_);(case side1=>exact qz73);(case side2=>exact (Kd.S_reads' HO473.out).2.1);(case side3=>exact qz79);(case side4=>exact (Kd.R_reads' HO475.out).2.1);rintro e w11 ⟨v482,rfl,ho0,hb⟩;have n0_:=Aside0.mk (Kd.S_below qz60 hb);have n1_:=Aside0.mk (Kd.R_below (by (with_reducible repeat (first|apply Kd.R_alloc|apply Kd.R_drewN|apply Kd.R_drew));exact HO475.out) hb);have n2_:=Aside0.mk (Kd.R_below qz68 hb);have n3_:=Aside0.mk (Kd.R_lower ho0 (below_size qz4));have n4_:=Aside0.mk (below_step qz4 hb);clear HO473 HO475 HO479 HB;have HO473:=n0_;have HO475:=n1_;have HO479:=n2_;have HO483:=n3_;have HB:=n4_;clear n0_ n1_ n2_ n3_ n4_;(try clear hb);(try clear hb2);(try clear hk);(try clear hi);(try clear ho0)))
  (try simp only [Act.put,List.setIfInBounds_toArray,List.set_cons_zero,List.set_cons_succ])
  go_cut [46] (fun v46 wc=>∃ (kq:Nat) (x46_5:Bool),v46 = .bool x46_5∧Aside0 (laws_FnSubFull.j0 kq t470 t476 t477 x46_5=some r)∧Aside0 (kq≤k)∧Aside0 (Kd.S k30 30 wc w.heap.size (fun _=>True) (.slice Ao8 t470.length co8) t470)∧Aside0 (Kd.R k46 46 wc w.heap.size (fun _=>True) v478 t476)∧Aside0 (Below w.heap.size w wc))
  case first=>
   have H:=HC6.out
   clear HC6
   replace H:=Option.bind_eq_some_iff.mp H
   obtain ⟨t484,A120,H⟩:=H
   try dsimp only at H
   have A12:=Aside0.mk A120
   clear A120
   by_cases c13:t484=true
   ·subst c13
    have H1:(laws_FnSubFull.j0 k t470 t476 t477 (t477 != t481))=some r:=qz34
    clear H
    have H:=H1
    clear H1
    have H':=Aside0.mk H
    clear H
    obtain ⟨Ao14,co14,eo14⟩:=Kd.R_slice HO479.out
    subst eo14
    obtain ⟨Ao15,co15,eo15⟩:=Kd.R_slice HO483.out
    subst eo15
    go_wp2_with (first|(go_at_call 20;(with_reducible refine (laws_caTerm.calls k _ _ t476 _ _ t480 true _ ?side1 ?side2 ?side3 ?side4 A12.out).mono ?_);(case side1=>exact qz78);(case side2=>exact (Kd.R_reads' HO479.out).2.1);(case side3=>exact qz77);(case side4=>exact (Kd.R_reads' HO483.out).2.1);rintro e w' ⟨rfl,⟨nd,rfl⟩⟩))
    go_meet
    case rel=>exact ⟨_,((t477 != t481)),qz9,H',⟨qz50⟩,⟨qz60⟩,⟨qz68⟩,⟨qz5⟩⟩
   ·replace c13:=Bool.eq_false_iff.mpr c13
    subst c13
    have H1:(laws_FnSubFull.j0 k t470 t476 t477 true)=some r:=qz21
    clear H
    have H:=H1
    clear H1
    have H':=Aside0.mk H
    clear H
    obtain ⟨Ao16,co16,eo16⟩:=Kd.R_slice HO479.out
    subst eo16
    obtain ⟨Ao17,co17,eo17⟩:=Kd.R_slice HO483.out
    subst eo17
    go_wp2_with (first|(go_at_call 20;(with_reducible refine (laws_caTerm.calls k _ _ t476 _ _ t480 false _ ?side1 ?side2 ?side3 ?side4 A12.out).mono ?_);(case side1=>exact qz78);(case side2=>exact (Kd.R_reads' HO479.out).2.1);(case side3=>exact qz77);(case side4=>exact (Kd.R_reads' HO483.out).2.1);rintro e w' ⟨rfl,⟨nd,rfl⟩⟩))
    go_meet
    case rel=>exact ⟨_,(true),qz9,H',⟨qz50⟩,⟨qz60⟩,⟨qz68⟩,⟨qz5⟩⟩
  case rest=>
   clear HC6
   try clear c1
   try clear c2
   try clear c2b0
   try clear c2b1
   try clear p2
   try clear c3
   try clear c4
   try clear c8
   try clear c13
   obtain ⟨kq,x46_5,rfl,HA,HJ5,HO_3,HO_5,HB⟩:=hcut
   cases kq with
   | zero=>exact absurd HA.out (by simp [laws_FnSubFull.j0])
   | succ kj5=>
    have H:=HA.out
    clear HA
    simp only [laws_FnSubFull.j0] at H
    by_cases c18:x46_5=true
    ·subst c18
     have H1:(some false)=some r:=qz34
     clear H
     have H:=H1
     clear H1
     obtain rfl:=Option.some.inj H
     go_wp2
     go_ret
     exact ⟨qz7,qz5⟩
    ·replace c18:=Bool.eq_false_iff.mpr c18
     subst c18
     have H1:(if t477=true then ((impl_SubFull.f kj5 t470 t476).bind fun bt486=>(if bt486.2=true then ((laws_caTerm.f kj5 bt486.1 t476).bind fun t490=>(if t490=true then ((impl_TrmOk.f t476).bind fun t491=>(laws_FnSubFull.j1 kj5 t470 t476 (!t491))) else (laws_FnSubFull.j1 kj5 t470 t476 true))) else (laws_FnSubFull.j1 kj5 t470 t476 true))) else (if (t476.length:Int)=0 then ((laws_caOk.f).bind fun t485=>(some t485)) else (some false)))=some r:=qz21
     clear H
     have H:=H1
     clear H1
     by_cases c19:t477=true
     ·subst c19
      have H1:((impl_SubFull.f kj5 t470 t476).bind fun bt486=>(if bt486.2=true then ((laws_caTerm.f kj5 bt486.1 t476).bind fun t490=>(if t490=true then ((impl_TrmOk.f t476).bind fun t491=>(laws_FnSubFull.j1 kj5 t470 t476 (!t491))) else (laws_FnSubFull.j1 kj5 t470 t476 true))) else (laws_FnSubFull.j1 kj5 t470 t476 true)))=some r:=qz34
      clear H
      have H:=H1
      clear H1
      replace H:=Option.bind_eq_some_iff.mp H
      obtain ⟨⟨t486,t487⟩,A200,H⟩:=H
      try dsimp only at H
      have A20:=Aside0.mk A200
      clear A200
      have HC21:=Aside0.mk H
      clear H
      obtain ⟨Ao22,co22,eo22⟩:=Kd.R_slice HO_5.out
      subst eo22
      go_upto_region 11 with (first|(go_at_call 36;(with_reducible refine (impl_SubFull.calls kj5 _ _ t470 _ _ t476 t486 t487 _ ?side1 ?side2 ?side3 ?side4 A20.out).mono ?_);(case side1=>exact qz37);(case side2=>exact (Kd.S_reads' HO_3.out).2.1);(case side3=>exact qz30);(case side4=>exact (Kd.R_reads' HO_5.out).2.1);rintro e w23 ⟨v488,rfl,ho0,hb⟩;have n0_:=Aside0.mk (Kd.S_below qz17 hb);have n1_:=Aside0.mk (Kd.R_below qz25 hb);have n2_:=Aside0.mk (Kd.R_lower ho0 (below_size qz4));have n3_:=Aside0.mk (below_step qz4 hb);clear HO_3 HO_5 HB;have HO_3:=n0_;have HO_5:=n1_;have HO489:=n2_;have HB:=n3_;clear n0_ n1_ n2_ n3_;(try clear hb);(try clear hb2);(try clear hk);(try clear hi);(try clear ho0)))
      (try simp only [Act.put,List.setIfInBounds_toArray,List.set_cons_zero,List.set_cons_succ])
      go_cut [73] (fun v73 wc=>∃ (kq:Nat) (x73_20:Bool),v73 = .bool x73_20∧Aside0 (laws_FnSubFull.j1 kq t470 t476 x73_20=some r)∧Aside0 (kq≤kj5)∧Aside0 (Kd.S k30 30 wc w.heap.size (fun _=>True) (.slice Ao8 t470.length co8) t470)∧Aside0 (Kd.R k46 46 wc w.heap.size (fun _=>True) (.slice Ao22 t476.length co22) t476)∧Aside0 (Below w.heap.size w wc))
      case first=>
       have H:=HC21.out
       clear HC21
       by_cases c24:t487=true
       ·subst c24
        have H1:((laws_caTerm.f kj5 t486 t476).bind fun t490=>(if t490=true then ((impl_TrmOk.f t476).bind fun t491=>(laws_FnSubFull.j1 kj5 t470 t476 (!t491))) else (laws_FnSubFull.j1 kj5 t470 t476 true)))=some r:=qz34
        clear H
        have H:=H1
        clear H1
        replace H:=Option.bind_eq_some_iff.mp H
        obtain ⟨t490,A250,H⟩:=H
        try dsimp only at H
        have A25:=Aside0.mk A250
        clear A250
        by_cases c26:t490=true
        ·subst c26
         have H1:((impl_TrmOk.f t476).bind fun t491=>(laws_FnSubFull.j1 kj5 t470 t476 (!t491)))=some r:=qz34
         clear H
         have H:=H1
         clear H1
         replace H:=Option.bind_eq_some_iff.mp H
         obtain ⟨t491,A270,H⟩:=H
         try dsimp only at H
         have A27:=Aside0.mk A270
         clear A270
         have H':=Aside0.mk H
         clear H
         obtain ⟨Ao28,co28,eo28⟩:=Kd.R_slice HO489.out
         subst eo28
         go_wp2_with (first|(go_at_call 20;(with_reducible refine (laws_caTerm.calls kj5 _ _ t486 _ _ t476 true _ ?side1 ?side2 ?side3 ?side4 A25.out).mono ?_);(case side1=>exact qz76);(case side2=>exact (Kd.R_reads' HO489.out).2.1);(case side3=>exact qz30);(case side4=>exact (Kd.R_reads' HO_5.out).2.1);rintro e w' ⟨rfl,⟨nd,rfl⟩⟩)|(go_at_call 42;(with_reducible refine (impl_TrmOk.calls _ _ t476 t491 _ ?side1 ?side2 A27.out).mono ?_);(case side1=>exact qz30);(case side2=>exact (Kd.R_reads' HO_5.out).2.1);rintro e w29 ⟨rfl,hb⟩;have n0_:=Aside0.mk (Kd.S_below qz17 hb);have n1_:=Aside0.mk (Kd.R_below qz25 hb);have n2_:=Aside0.mk (Kd.R_below (by (with_reducible repeat (first|apply Kd.R_alloc|apply Kd.R_drewN|apply Kd.R_drew));exact HO489.out) hb);have n3_:=Aside0.mk (below_step qz4 hb);clear HO_3 HO_5 HO489 HB;have HO_3:=n0_;have HO_5:=n1_;have HO489:=n2_;have HB:=n3_;clear n0_ n1_ n2_ n3_;(try clear hb);(try clear hb2);(try clear hk);(try clear hi)))
         go_meet
         case rel=>exact ⟨_,(!t491),qz9,H',⟨by have:=HJ5.out;first|omega|exact Nat.le_refl _⟩,⟨qz17⟩,⟨qz25⟩,⟨qz5⟩⟩
        ·replace c26:=Bool.eq_false_iff.mpr c26
         subst c26
         have H1:(laws_FnSubFull.j1 kj5 t470 t476 true)=some r:=qz21
         clear H
         have H:=H1
         clear H1
         have H':=Aside0.mk H
         clear H
         obtain ⟨Ao30,co30,eo30⟩:=Kd.R_slice HO489.out
         subst eo30
         go_wp2_with (first|(go_at_call 20;(with_reducible refine (laws_caTerm.calls kj5 _ _ t486 _ _ t476 false _ ?side1 ?side2 ?side3 ?side4 A25.out).mono ?_);(case side1=>exact qz76);(case side2=>exact (Kd.R_reads' HO489.out).2.1);(case side3=>exact qz30);(case side4=>exact (Kd.R_reads' HO_5.out).2.1);rintro e w' ⟨rfl,⟨nd,rfl⟩⟩))
         go_meet
         case rel=>exact ⟨_,(true),qz9,H',⟨by have:=HJ5.out;first|omega|exact Nat.le_refl _⟩,⟨qz17⟩,⟨qz25⟩,⟨qz5⟩⟩
       ·replace c24:=Bool.eq_false_iff.mpr c24
        subst c24
        have H1:(laws_FnSubFull.j1 kj5 t470 t476 true)=some r:=qz21
        clear H
        have H:=H1
        clear H1
        have H':=Aside0.mk H
        clear H
        go_wp2
        go_meet
        case rel=>exact ⟨_,(true),qz9,H',⟨by have:=HJ5.out;first|omega|exact Nat.le_refl _⟩,⟨qz17⟩,⟨qz25⟩,⟨qz5⟩⟩
      case rest=>
       clear HC21
       try clear c1
       try clear c2
       try clear c2b0
       try clear c2b1
       try clear p2
       try clear c3
       try clear c4
       try clear c8
       try clear c13
       try clear c18
       try clear c19
       try clear c20
       try clear c24
       try clear c26
       try clear p2
       obtain ⟨kq,x73_20,rfl,HA,HJ20,HO_3,HO_5,HB⟩:=hcut
       cases kq with
       | zero=>exact absurd HA.out (by simp [laws_FnSubFull.j1])
       | succ kj20=>
        have H:=HA.out
        clear HA
        simp only [laws_FnSubFull.j1] at H
        by_cases c31:x73_20=true
        ·subst c31
         have H1:(some false)=some r:=qz34
         clear H
         have H:=H1
         clear H1
         obtain rfl:=Option.some.inj H
         go_wp2
         go_ret
         exact ⟨qz7,qz5⟩
        ·replace c31:=Bool.eq_false_iff.mpr c31
         subst c31
         have H1:((impl_TrmFree.f kj20 t476).bind fun t492=>(laws_FnSubFull.l0 kj20 t470 t492 0))=some r:=qz21
         clear H
         have H:=H1
         clear H1
         replace H:=Option.bind_eq_some_iff.mp H
         obtain ⟨t492,A320,H⟩:=H
         try dsimp only at H
         have A32:=Aside0.mk A320
         clear A320
         have H':=Aside0.mk H
         clear H
         go_wp2_with (first|(go_at_call 32;(with_reducible refine (impl_TrmFree.calls kj20 _ _ t476 t492 _ ?side1 ?side2 A32.out).mono ?_);(case side1=>exact qz30);(case side2=>exact (Kd.R_reads' HO_5.out).2.1);rintro e w33 ⟨v493,rfl,ho0,hb⟩;have n0_:=Aside0.mk (Kd.S_below qz17 hb);have n1_:=Aside0.mk (Kd.R_below qz25 hb);have n2_:=Aside0.mk (Kd.R_lower ho0 (below_size qz4));have n3_:=Aside0.mk (below_step qz4 hb);clear HO_3 HO_5 HB;have HO_3:=n0_;have HO_5:=n1_;have HO494:=n2_;have HB:=n3_;clear n0_ n1_ n2_ n3_;(try clear hb);(try clear hb2);(try clear hk);(try clear hi);(try clear ho0)))
         go_loopg [12] kj20 (fun kq v12 w'=>∃ (x12_3:Int),v12 = .int .i64 x12_3∧Aside0 (laws_FnSubFull.l0 kq t470 t492 x12_3=some r)∧Aside0 (kq≤kj20)∧Aside0 (Kd.S k30 30 w' w.heap.size (fun _=>True) (.slice Ao8 t470.length co8) t470)∧Aside0 (Kd.R (Kd.int .i64) 3 w' w.heap.size (fun _=>True) v493 t492)∧Aside0 (Below w.heap.size w w'))
         case atStart=>exact ⟨(0),qz9,H',⟨Nat.le_refl _⟩,⟨qz17⟩,⟨by (with_reducible repeat (first|apply Kd.R_alloc|apply Kd.R_drewN|apply Kd.R_drew));exact HO494.out⟩,⟨qz5⟩⟩
         case round=>
          clear H'
          try clear c1
          try clear c2
          try clear c2b0
          try clear c2b1
          try clear p2
          try clear c3
          try clear c4
          try clear c8
          try clear c13
          try clear c18
          try clear c19
          try clear c20
          try clear c24
          try clear c26
          try clear c31
          try clear c32
          try clear p2
          obtain ⟨x12_3,rfl,HA,HK3,HO_3,HO_11,HB⟩:=hrel
          cases gk with
          | zero=>exact absurd HA.out (by simp [laws_FnSubFull.l0])
          | succ k3=>
           have H:=HA.out
           clear HA
           simp only [laws_FnSubFull.l0] at H
           by_cases c34:x12_3<(t492.length:Int)
           ·rw [if_pos c34] at H
            have c34b0:decide (x12_3<(t492.length:Int))=true:=decide_eq_true c34
            clear c34
            by_cases c35:0≤x12_3
            ·rw [if_pos c35] at H
             have c35b0:decide (0≤x12_3)=true:=decide_eq_true c35
             clear c35
             replace H:=Option.bind_eq_some_iff.mp H
             obtain ⟨t496,A360,H⟩:=H
             try dsimp only at H
             have A36:=Aside0.mk A360
             clear A360
             by_cases c37:(t496.length:Int) > 0
             ·rw [if_pos c37] at H
              have c37b0:decide (0<(t496.length:Int))=true:=decide_eq_true c37
              have c37b1:decide (0<t496.length)=true:=decide_eq_true (by omega)
              clear c37
              obtain rfl:=Option.some.inj H
              obtain ⟨Ao38,co38,eo38⟩:=Kd.R_slice HO_11.out
              subst eo38
              have p495:0≤(x12_3:Int):=of_decide_eq_true qz6
              have q495:x12_3<(t492.length:Int):=of_decide_eq_true qz6
              obtain ⟨ad495,e495,hx495_0⟩:=Kd.at_int (Kd.R_reads' HO_11.out).2.2 x12_3 p495 q495
              cases e495
              replace p495:=eq_true p495
              replace q495:=eq_true q495
              go_wp2_with (first|(go_at_call 19;(with_reducible refine (impl_SubGet.calls _ _ t470 (rd t492 x12_3) t496 _ ?side1 ?side2 A36.out).mono ?_);(case side1=>exact qz37);(case side2=>exact (Kd.S_reads' HO_3.out).2.1);rintro e w39 ⟨v497,rfl,ho0,hb⟩;have n0_:=Aside0.mk (Kd.S_below qz17 hb);have n1_:=Aside0.mk (Kd.R_below qz66 hb);have n2_:=Aside0.mk (Kd.R_lower ho0 (below_size qz4));have n3_:=Aside0.mk (below_step qz4 hb);clear HO_3 HO_11 HB;have HO_3:=n0_;have HO_11:=n1_;have HO498:=n2_;have HB:=n3_;clear n0_ n1_ n2_ n3_;(try clear hb);(try clear hb2);(try clear hk);(try clear hi);(try clear ho0);obtain ⟨Ao40,co40,eo40⟩:=Kd.R_slice HO498.out;subst eo40))
              go_ret
              exact ⟨qz7,qz5⟩
             ·rw [if_neg c37] at H
              have c37b0:decide (0<(t496.length:Int))=false:=decide_eq_false c37
              have c37b1:decide (0<t496.length)=false:=decide_eq_false (by omega)
              clear c37
              have H':=Aside0.mk H
              clear H
              obtain ⟨Ao41,co41,eo41⟩:=Kd.R_slice HO_11.out
              subst eo41
              have p495:0≤(x12_3:Int):=of_decide_eq_true qz6
              have q495:x12_3<(t492.length:Int):=of_decide_eq_true qz6
              obtain ⟨ad495,e495,hx495_0⟩:=Kd.at_int (Kd.R_reads' HO_11.out).2.2 x12_3 p495 q495
              cases e495
              replace p495:=eq_true p495
              replace q495:=eq_true q495
              go_wp2_with (first|(go_at_call 19;(with_reducible refine (impl_SubGet.calls _ _ t470 (rd t492 x12_3) t496 _ ?side1 ?side2 A36.out).mono ?_);(case side1=>exact qz37);(case side2=>exact (Kd.S_reads' HO_3.out).2.1);rintro e w42 ⟨v497,rfl,ho0,hb⟩;have n0_:=Aside0.mk (Kd.S_below qz17 hb);have n1_:=Aside0.mk (Kd.R_below qz66 hb);have n2_:=Aside0.mk (Kd.R_lower ho0 (below_size qz4));have n3_:=Aside0.mk (below_step qz4 hb);clear HO_3 HO_11 HB;have HO_3:=n0_;have HO_11:=n1_;have HO498:=n2_;have HB:=n3_;clear n0_ n1_ n2_ n3_;(try clear hb);(try clear hb2);(try clear hk);(try clear hi);(try clear ho0);obtain ⟨Ao43,co43,eo43⟩:=Kd.R_slice HO498.out;subst eo43))
              go_roundg k3
              case measure=>have:=HJ5.out;have:=HJ20.out;have:=HK3.out;omega
              case rel=>exact ⟨(wrap64 (x12_3+1)),qz9,H',⟨by have:=HJ5.out;have:=HJ20.out;have:=HK3.out;omega⟩,⟨qz17⟩,⟨qz66⟩,⟨qz5⟩⟩
            ·rw [if_neg c35] at H
             exact absurd H (by simp)
           ·rw [if_neg c34] at H
            have c34b0:decide (x12_3<(t492.length:Int))=false:=decide_eq_false c34
            clear c34
            have H':=Aside0.mk H
            clear H
            obtain ⟨Ao44,co44,eo44⟩:=Kd.R_slice HO_11.out
            subst eo44
            go_wp2
            go_loopg [13] k3 (fun kq v13 w'=>∃ (x13_4:Int),v13 = .int .i64 x13_4∧Aside0 (laws_FnSubFull.l1 kq t470 x13_4=some r)∧Aside0 (kq≤k3)∧Aside0 (Kd.S k30 30 w' w.heap.size (fun _=>True) (.slice Ao8 t470.length co8) t470)∧Aside0 (Below w.heap.size w w'))
            case atStart=>exact ⟨(0),qz9,H',⟨Nat.le_refl _⟩,⟨qz17⟩,⟨qz5⟩⟩
            case round=>
             clear H'
             try clear c1
             try clear c2
             try clear c2b0
             try clear c2b1
             try clear p2
             try clear c3
             try clear c4
             try clear p4
             try clear q4
             try clear hx4
             try clear p6
             try clear c8
             try clear c13
             try clear c18
             try clear c19
             try clear c20
             try clear c24
             try clear c26
             try clear c31
             try clear c32
             try clear c34
             try clear c34b0
             try clear c35
             try clear c35b0
             try clear c36
             try clear c37
             try clear c37b0
             try clear c37b1
             try clear c41
             try clear hx495_0
             try clear p2
             try clear p495
             try clear q495
             obtain ⟨x13_4,rfl,HA,HK4,HO_3,HB⟩:=hrel
             cases gk with
             | zero=>exact absurd HA.out (by simp [laws_FnSubFull.l1])
             | succ k4=>
              have H:=HA.out
              clear HA
              simp only [laws_FnSubFull.l1] at H
              by_cases c45:x13_4<(t470.length:Int)
              ·rw [if_pos c45] at H
               have c45b0:decide (x13_4<(t470.length:Int))=true:=decide_eq_true c45
               clear c45
               by_cases c46:0≤x13_4
               ·rw [if_pos c46] at H
                have c46b0:decide (0≤x13_4)=true:=decide_eq_true c46
                clear c46
                obtain ⟨y500,hy500⟩:∃ y_:List (S46),y_=(([(⟨1,(rd_T30 t470 x13_4).f0,(⟨#[]⟩:ByteArray)⟩:S46)]:List (S46))):=⟨_,rfl⟩
                replace H:((impl_SubFull.f k4 t470 y500).bind fun bt503=>((impl_SubFull.f k4 t470 ((rd_T30 t470 x13_4).f1)).bind fun bt508=>(if (bt503.2 != bt508.2)=true then (laws_FnSubFull.j4 k4 t470 x13_4 true) else ((laws_caTerm.f k4 bt503.1 bt508.1).bind fun t512=>(if t512=true then ((impl_SubGet.f t470 ((rd_T30 t470 x13_4).f0)).bind fun t514=>((laws_caTerm.f k4 t514 ((rd_T30 t470 x13_4).f1)).bind fun t518=>(laws_FnSubFull.j4 k4 t470 x13_4 (!t518)))) else (laws_FnSubFull.j4 k4 t470 x13_4 true))))))=some r:=by first|(rw [hy500];exact H)|exact H
                have Ny500:=Aside0.mk hy500
                clear hy500
                replace H:=Option.bind_eq_some_iff.mp H
                obtain ⟨⟨t503,t504⟩,A470,H⟩:=H
                try dsimp only at H
                have A47:=Aside0.mk A470
                clear A470
                replace H:=Option.bind_eq_some_iff.mp H
                obtain ⟨⟨t508,t509⟩,A480,H⟩:=H
                try dsimp only at H
                have A48:=Aside0.mk A480
                clear A480
                have HC49:=Aside0.mk H
                clear H
                have p499:0≤(x13_4:Int):=of_decide_eq_true qz6
                have q499:x13_4<(t470.length:Int):=of_decide_eq_true qz6
                obtain ⟨ad499,A499_1,c499_1,e499,hx499_0,hx499_1,hl499_1,hi499_1⟩:=at_T30 (Kd.S_reads' HO_3.out).2.2 x13_4 p499 q499
                cases e499
                obtain ⟨ce499,hce499,hMe499,hcc499⟩:=Kd.S_get HO_3.out z30 x13_4 p499 (by first|exact q499|exact of_decide_eq_true qz6|(have e_:=(Kd.S_reads' HO_3.out).1;omega))
                obtain ⟨ve499_1,rfl,ge499_1⟩:=k30_openM hMe499
                have hv499_1:=hcc499 1 _ rfl
                rw [add_field _ _ 1 (by omega)] at hv499_1
                replace hv499_1:=Option.some.inj (hv499_1.symm.trans hx499_1)
                rw [hv499_1] at ge499_1
                have HL499_1:=Aside0.mk (show Kd.R k46 46 _ _ _ _ ((rd_T30 t470 x13_4).f1) from ge499_1)
                clear hv499_1 ge499_1 hcc499 hce499
                have HR499_1:=Aside0.mk hi499_1
                have HC499_1:=Aside0.mk hl499_1
                clear hi499_1 hl499_1
                replace p499:=eq_true p499
                replace q499:=eq_true q499
                go_upto_region 24 with (first|((with_reducible refine gate_dst (N:=104) rfl ?_);refine Kd.R_lit k46 _ 46 ?hg (N:=104) ?hd (xs:=([(⟨1,(rd_T30 t470 x13_4).f0,(⟨#[]⟩:ByteArray)⟩:S46)]:List (S46))) (inner:=[.int .i64 1,.int .i64 ((rd_T30 t470 x13_4).f0),.string (⟨#[]⟩:ByteArray)]) (ok:=fun _=>True) (okp:=fun _=>True) ?hr ?hp (fun _ hk=>hk) trivial (Below.refl _ _) (Nat.le_refl _) (by simp) ?_;(case hd=>rfl);(case hg=>rfl);(case hr=>first|(go_simp;done)|(go_simp;rfl));(case hp=>exact (Reps.c3 (show Kd.M k46 _ _ _ (⟨1,(rd_T30 t470 x13_4).f0,(⟨#[]⟩:ByteArray)⟩:S46) [.int .i64 1,.int .i64 ((rd_T30 t470 x13_4).f0),.string (⟨#[]⟩:ByteArray)] from (k46_mkM _ _ _ (⟨1,(rd_T30 t470 x13_4).f0,(⟨#[]⟩:ByteArray)⟩:S46) )) (Reps.none _ _)));intro v501 w50 ho51 hb hg_ hnew_;clear hg_ hnew_;(first|rw [← Ny500.out] at ho51|(simp only [Int.reduceToNat] at ho51;rw [← Ny500.out] at ho51));have n0_:=Aside0.mk (Kd.S_below qz17 hb);have n1_:=Aside0.mk (Kd.R_below qz59 hb);have n2_:=Aside0.mk (Kd.R_lower ho51 (below_size qz4));have n3_:=Aside0.mk (Kd.C_below qz39 hb);have n4_:=Aside0.mk (below_step qz4 hb);clear HO_3 HL499_1 HR499_1 HB;have HO_3:=n0_;have HL499_1:=n1_;have HO502:=n2_;have HR499_1:=n3_;have HB:=n4_;clear n0_ n1_ n2_ n3_ n4_ hb ho51;obtain ⟨Ao52,co52,eo52⟩:=Kd.R_slice HO502.out;subst eo52)|(go_at_call 36;(with_reducible refine (impl_SubFull.calls k4 _ _ t470 _ _ y500 t503 t504 _ ?side1 ?side2 ?side3 ?side4 A47.out).mono ?_);(case side1=>exact qz37);(case side2=>exact (Kd.S_reads' HO_3.out).2.1);(case side3=>repeat (first|exact (Kd.R_reads' HO502.out).2.2|(with_reducible refine Kd.C_alloc ?_ _)|(with_reducible refine Kd.C_drewN ?_ _)|(with_reducible refine Kd.C_drew ?_)));(case side4=>exact (Kd.R_reads' HO502.out).2.1);rintro e w53 ⟨v505,rfl,ho0,hb⟩;have n0_:=Aside0.mk (Kd.S_below qz17 hb);have n1_:=Aside0.mk (Kd.R_below qz59 hb);have n2_:=Aside0.mk (Kd.R_below qz67 hb);have n3_:=Aside0.mk (Kd.R_lower ho0 (below_size qz4));have n4_:=Aside0.mk (Kd.C_below qz39 hb);have n5_:=Aside0.mk (below_step qz4 hb);clear HO_3 HL499_1 HO502 HR499_1 HB;have HO_3:=n0_;have HL499_1:=n1_;have HO502:=n2_;have HO506:=n3_;have HR499_1:=n4_;have HB:=n5_;clear n0_ n1_ n2_ n3_ n4_ n5_;(try clear hb);(try clear hb2);(try clear hk);(try clear hi);(try clear ho0);have p507:0≤(x13_4:Int):=of_decide_eq_true qz6;have q507:x13_4<(t470.length:Int):=of_decide_eq_true qz6;obtain ⟨ad507,A507_1,c507_1,e507,hx507_0,hx507_1,hl507_1,hi507_1⟩:=at_T30 (Kd.S_reads' HO_3.out).2.2 x13_4 p507 q507;obtain rfl:ad499=ad507:=(by injection e507);obtain ⟨ce507,hce507,hMe507,hcc507⟩:=Kd.S_get HO_3.out z30 x13_4 p507 (by first|exact q507|exact of_decide_eq_true qz6|(have e_:=(Kd.S_reads' HO_3.out).1;omega));obtain ⟨ve507_1,rfl,ge507_1⟩:=k30_openM hMe507;have hv507_1:=hcc507 1 _ rfl;rw [add_field _ _ 1 (by omega)] at hv507_1;replace hv507_1:=Option.some.inj (hv507_1.symm.trans hx507_1);rw [hv507_1] at ge507_1;have HL507_1:=Aside0.mk (show Kd.R k46 46 _ _ _ _ ((rd_T30 t470 x13_4).f1) from ge507_1);clear hv507_1 ge507_1 hcc507 hce507;have HR507_1:=Aside0.mk hi507_1;have HC507_1:=Aside0.mk hl507_1;clear hi507_1 hl507_1;replace p507:=eq_true p507;replace q507:=eq_true q507)|(go_at_call 36;(with_reducible refine (impl_SubFull.calls k4 _ _ t470 _ _ ((rd_T30 t470 x13_4).f1) t508 t509 _ ?side1 ?side2 ?side3 ?side4 A48.out).mono ?_);(case side1=>exact qz37);(case side2=>exact (Kd.S_reads' HO_3.out).2.1);(case side3=>repeat (first|exact qz48|(with_reducible refine Kd.C_alloc ?_ _)|(with_reducible refine Kd.C_drewN ?_ _)|(with_reducible refine Kd.C_drew ?_)));(case side4=>exact HC507_1.out);rintro e w54 ⟨v510,rfl,ho0,hb⟩;have n0_:=Aside0.mk (Kd.S_below qz17 hb);have n1_:=Aside0.mk (Kd.R_below qz59 hb);have n2_:=Aside0.mk (Kd.R_below qz67 hb);have n3_:=Aside0.mk (Kd.R_below (by (with_reducible repeat (first|apply Kd.R_alloc|apply Kd.R_drewN|apply Kd.R_drew));exact HO506.out) hb);have n4_:=Aside0.mk (Kd.R_below (by (with_reducible repeat (first|apply Kd.R_alloc|apply Kd.R_drewN|apply Kd.R_drew));exact HL507_1.out) hb);have n5_:=Aside0.mk (Kd.R_lower ho0 (below_size qz4));have n6_:=Aside0.mk (Kd.C_below qz39 hb);have n7_:=Aside0.mk (Kd.C_below qz48 hb);have n8_:=Aside0.mk (below_step qz4 hb);clear HO_3 HL499_1 HO502 HO506 HL507_1 HR499_1 HR507_1 HB;have HO_3:=n0_;have HL499_1:=n1_;have HO502:=n2_;have HO506:=n3_;have HL507_1:=n4_;have HO511:=n5_;have HR499_1:=n6_;have HR507_1:=n7_;have HB:=n8_;clear n0_ n1_ n2_ n3_ n4_ n5_ n6_ n7_ n8_;(try clear hb);(try clear hb2);(try clear hk);(try clear hi);(try clear ho0)))
                (try simp only [Act.put,List.setIfInBounds_toArray,List.set_cons_zero,List.set_cons_succ])
                go_cut [142] (fun v142 wc=>∃ (kq:Nat) (x142_48:Bool),v142 = .bool x142_48∧Aside0 (laws_FnSubFull.j4 kq t470 x13_4 x142_48=some r)∧Aside0 (kq≤k4)∧Aside0 (Kd.S k30 30 wc w.heap.size (fun _=>True) (.slice (some ad499) t470.length co8) t470)∧Aside0 (Kd.C k46 wc A499_1 ((rd_T30 t470 x13_4).f1).length ((rd_T30 t470 x13_4).f1))∧Aside0 (Kd.C k46 wc A507_1 ((rd_T30 t470 x13_4).f1).length ((rd_T30 t470 x13_4).f1))∧Aside0 (Below w.heap.size w wc))
                case first=>
                 have H:=HC49.out
                 clear HC49
                 by_cases c55:(t504 != t509)=true
                 ·rw [if_pos c55] at H
                  have c55b0:(t504 != t509)=true:=c55
                  (try (have c55b1:decide (t504=t509)=false:=by simpa using c55))
                  (try (have c55b2:(t504 == t509)=false:=by simpa using c55))
                  (try (have c55b3:¬ (t504=t509):=by simpa using c55))
                  clear c55
                  (first|rw [c55b0]|(simp only [i64_w,i32_w];rw [c55b0])|skip)
                  have H':=Aside0.mk H
                  clear H
                  try go_wp2
                  have n0_:=Aside0.mk (Kd.S_drew HO_3.out)
                  have n1_:=Aside0.mk (Kd.R_drew HL499_1.out)
                  have n2_:=Aside0.mk (Kd.R_drew HO502.out)
                  have n3_:=Aside0.mk (Kd.R_drew HO506.out)
                  have n4_:=Aside0.mk (Kd.R_drew HL507_1.out)
                  have n5_:=Aside0.mk (Kd.R_drew HO511.out)
                  have n6_:=Aside0.mk (Kd.C_drew HR499_1.out)
                  have n7_:=Aside0.mk (Kd.C_drew HR507_1.out)
                  have n8_:=Aside0.mk (below_drew1 HB.out)
                  clear HO_3 HL499_1 HO502 HO506 HL507_1 HO511 HR499_1 HR507_1 HB
                  have HO_3:=n0_
                  have HL499_1:=n1_
                  have HO502:=n2_
                  have HO506:=n3_
                  have HL507_1:=n4_
                  have HO511:=n5_
                  have HR499_1:=n6_
                  have HR507_1:=n7_
                  have HB:=n8_
                  clear n0_ n1_ n2_ n3_ n4_ n5_ n6_ n7_ n8_
                  refine start_ (n:=25) (S:=fun w'=>True) (ds:=[]) #[false,false,false,false,false,false,false,false,false,false,false,false,false,false,false,false,false,false,false,false,false,false,false,false,false] (by kernel_rfl) rfl rfl trivial (fun hHeld=>?_);refine with_tabW laws_FnSubFull.tab24 laws_FnSubFull.bits24 (fun HT_ HW_=>?_)
                  generalize w54.drew=w56 at HO_3 HL499_1 HO502 HO506 HL507_1 HO511 HR499_1 HR507_1 HB hHeld ⊢
                  refine pure_ (i:=0) (N:=some 118) (v:=?_) (a':=?_) #[true,false,false,false,false,false,false,false,false,false,false,false,false,false,false,false,false,false,false,false,false,false,false,false,false] rfl rfl (any_of HT_.out (by kernel_rfl)) (fun _ _ _ h=>h) (Or.inl ⟨by rfl,?_⟩) ?_ ?_
                  rotate_left
                  ·intro w'
                   go_simp
                   with_reducible rfl
                  rotate_left
                  ·simp only [Act.put,List.setIfInBounds_toArray,List.set_cons_zero,List.set_cons_succ,i64_w,i32_w]
                   rfl
                  refine pure_ (i:=1) (N:=some 119) (v:=?_) (a':=?_) #[true,true,false,false,false,false,false,false,false,false,false,false,false,false,false,false,false,false,false,false,false,false,false,false,false] rfl rfl (any_of HT_.out (by kernel_rfl)) (fun _ _ _ h=>h) (Or.inl ⟨by rfl,?_⟩) ?_ ?_
                  rotate_left
                  ·intro w'
                   go_simp
                   with_reducible rfl
                  rotate_left
                  ·simp only [Act.put,List.setIfInBounds_toArray,List.set_cons_zero,List.set_cons_succ,i64_w,i32_w]
                   rfl
                  refine pure_ (i:=2) (N:=some 120) (v:=?_) (a':=?_) #[true,true,true,false,false,false,false,false,false,false,false,false,false,false,false,false,false,false,false,false,false,false,false,false,false] rfl rfl (any_of HT_.out (by kernel_rfl)) (fun _ _ _ h=>h) (Or.inl ⟨by rfl,?_⟩) ?_ ?_
                  rotate_left
                  ·intro w'
                   go_simp
                   with_reducible rfl
                  rotate_left
                  ·simp only [Act.put,List.setIfInBounds_toArray,List.set_cons_zero,List.set_cons_succ,i64_w,i32_w]
                   rfl
                  refine pure_ (i:=3) (N:=some 121) (v:=?_) (a':=?_) #[true,true,true,true,false,false,false,false,false,false,false,false,false,false,false,false,false,false,false,false,false,false,false,false,false] rfl rfl (any_of HT_.out (by kernel_rfl)) (fun _ _ _ h=>h) (Or.inl ⟨by rfl,?_⟩) ?_ ?_
                  rotate_left
                  ·intro w'
                   go_simp
                   with_reducible rfl
                  rotate_left
                  ·simp only [Act.put,List.setIfInBounds_toArray,List.set_cons_zero,List.set_cons_succ,i64_w,i32_w]
                   rfl
                  refine pure_ (i:=4) (N:=some 122) (v:=undef) (a':=?_) #[true,true,true,true,true,false,false,false,false,false,false,false,false,false,false,false,false,false,false,false,false,false,false,false,false] rfl rfl (any_of HT_.out (by kernel_rfl)) (fun _ _ _ h=>h) (Or.inr ⟨by rfl,rfl⟩) ?_ ?_
                  rotate_left
                  ·simp only [Act.put,List.setIfInBounds_toArray,List.set_cons_zero,List.set_cons_succ,i64_w,i32_w]
                   rfl
                  refine pure_ (i:=5) (N:=some 123) (v:=undef) (a':=?_) #[true,true,true,true,true,true,false,false,false,false,false,false,false,false,false,false,false,false,false,false,false,false,false,false,false] rfl rfl (any_of HT_.out (by kernel_rfl)) (fun _ _ _ h=>h) (Or.inr ⟨by rfl,rfl⟩) ?_ ?_
                  rotate_left
                  ·simp only [Act.put,List.setIfInBounds_toArray,List.set_cons_zero,List.set_cons_succ,i64_w,i32_w]
                   rfl
                  refine pure_ (i:=6) (N:=some 124) (v:=undef) (a':=?_) #[true,true,true,true,true,true,true,false,false,false,false,false,false,false,false,false,false,false,false,false,false,false,false,false,false] rfl rfl (any_of HT_.out (by kernel_rfl)) (fun _ _ _ h=>h) (Or.inr ⟨by rfl,rfl⟩) ?_ ?_
                  rotate_left
                  ·simp only [Act.put,List.setIfInBounds_toArray,List.set_cons_zero,List.set_cons_succ,i64_w,i32_w]
                   rfl
                  refine pure_ (i:=7) (N:=some 125) (v:=undef) (a':=?_) #[true,true,true,true,true,true,true,true,false,false,false,false,false,false,false,false,false,false,false,false,false,false,false,false,false] rfl rfl (any_of HT_.out (by kernel_rfl)) (fun _ _ _ h=>h) (Or.inr ⟨by rfl,rfl⟩) ?_ ?_
                  rotate_left
                  ·simp only [Act.put,List.setIfInBounds_toArray,List.set_cons_zero,List.set_cons_succ,i64_w,i32_w]
                   rfl
                  refine pure_ (i:=8) (N:=some 126) (v:=?_) (a':=?_) #[true,true,true,true,true,true,true,true,true,false,false,false,false,false,false,false,false,false,false,false,false,false,false,false,false] rfl rfl (any_of HT_.out (by kernel_rfl)) (fun _ _ _ h=>h) (Or.inl ⟨by rfl,?_⟩) ?_ ?_
                  rotate_left
                  ·intro w'
                   go_simp
                   with_reducible rfl
                  rotate_left
                  ·simp only [Act.put,List.setIfInBounds_toArray,List.set_cons_zero,List.set_cons_succ,i64_w,i32_w]
                   rfl
                  refine pure_ (i:=9) (N:=some 127) (v:=?_) (a':=?_) #[true,true,true,true,true,true,true,true,true,true,false,false,false,false,false,false,false,false,false,false,false,false,false,false,false] rfl rfl (any_of HT_.out (by kernel_rfl)) (fun _ _ _ h=>h) (Or.inl ⟨by rfl,?_⟩) ?_ ?_
                  rotate_left
                  ·intro w'
                   go_simp
                   with_reducible rfl
                  rotate_left
                  ·simp only [Act.put,List.setIfInBounds_toArray,List.set_cons_zero,List.set_cons_succ,i64_w,i32_w]
                   rfl
                  refine pure_ (i:=10) (N:=some 128) (v:=undef) (a':=?_) #[true,true,true,true,true,true,true,true,true,true,true,false,false,false,false,false,false,false,false,false,false,false,false,false,false] rfl rfl (any_of HT_.out (by kernel_rfl)) (fun _ _ _ h=>h) (Or.inr ⟨by rfl,rfl⟩) ?_ ?_
                  rotate_left
                  ·simp only [Act.put,List.setIfInBounds_toArray,List.set_cons_zero,List.set_cons_succ,i64_w,i32_w]
                   rfl
                  refine pure_ (i:=11) (N:=some 129) (v:=undef) (a':=?_) #[true,true,true,true,true,true,true,true,true,true,true,true,false,false,false,false,false,false,false,false,false,false,false,false,false] rfl rfl (any_of HT_.out (by kernel_rfl)) (fun _ _ _ h=>h) (Or.inr ⟨by rfl,rfl⟩) ?_ ?_
                  rotate_left
                  ·simp only [Act.put,List.setIfInBounds_toArray,List.set_cons_zero,List.set_cons_succ,i64_w,i32_w]
                   rfl
                  refine pure_ (i:=12) (N:=some 130) (v:=undef) (a':=?_) #[true,true,true,true,true,true,true,true,true,true,true,true,true,false,false,false,false,false,false,false,false,false,false,false,false] rfl rfl (any_of HT_.out (by kernel_rfl)) (fun _ _ _ h=>h) (Or.inr ⟨by rfl,rfl⟩) ?_ ?_
                  rotate_left
                  ·simp only [Act.put,List.setIfInBounds_toArray,List.set_cons_zero,List.set_cons_succ,i64_w,i32_w]
                   rfl
                  refine pure_ (i:=13) (N:=some 131) (v:=undef) (a':=?_) #[true,true,true,true,true,true,true,true,true,true,true,true,true,true,false,false,false,false,false,false,false,false,false,false,false] rfl rfl (any_of HT_.out (by kernel_rfl)) (fun _ _ _ h=>h) (Or.inr ⟨by rfl,rfl⟩) ?_ ?_
                  rotate_left
                  ·simp only [Act.put,List.setIfInBounds_toArray,List.set_cons_zero,List.set_cons_succ,i64_w,i32_w]
                   rfl
                  refine pure_ (i:=14) (N:=some 132) (v:=undef) (a':=?_) #[true,true,true,true,true,true,true,true,true,true,true,true,true,true,true,false,false,false,false,false,false,false,false,false,false] rfl rfl (any_of HT_.out (by kernel_rfl)) (fun _ _ _ h=>h) (Or.inr ⟨by rfl,rfl⟩) ?_ ?_
                  rotate_left
                  ·simp only [Act.put,List.setIfInBounds_toArray,List.set_cons_zero,List.set_cons_succ,i64_w,i32_w]
                   rfl
                  refine pure_ (i:=15) (N:=some 133) (v:=undef) (a':=?_) #[true,true,true,true,true,true,true,true,true,true,true,true,true,true,true,true,false,false,false,false,false,false,false,false,false] rfl rfl (any_of HT_.out (by kernel_rfl)) (fun _ _ _ h=>h) (Or.inr ⟨by rfl,rfl⟩) ?_ ?_
                  rotate_left
                  ·simp only [Act.put,List.setIfInBounds_toArray,List.set_cons_zero,List.set_cons_succ,i64_w,i32_w]
                   rfl
                  refine pure_ (i:=16) (N:=some 134) (v:=undef) (a':=?_) #[true,true,true,true,true,true,true,true,true,true,true,true,true,true,true,true,true,false,false,false,false,false,false,false,false] rfl rfl (any_of HT_.out (by kernel_rfl)) (fun _ _ _ h=>h) (Or.inr ⟨by rfl,rfl⟩) ?_ ?_
                  rotate_left
                  ·simp only [Act.put,List.setIfInBounds_toArray,List.set_cons_zero,List.set_cons_succ,i64_w,i32_w]
                   rfl
                  refine pure_ (i:=17) (N:=some 135) (v:=undef) (a':=?_) #[true,true,true,true,true,true,true,true,true,true,true,true,true,true,true,true,true,true,false,false,false,false,false,false,false] rfl rfl (any_of HT_.out (by kernel_rfl)) (fun _ _ _ h=>h) (Or.inr ⟨by rfl,rfl⟩) ?_ ?_
                  rotate_left
                  ·simp only [Act.put,List.setIfInBounds_toArray,List.set_cons_zero,List.set_cons_succ,i64_w,i32_w]
                   rfl
                  refine pure_ (i:=18) (N:=some 136) (v:=undef) (a':=?_) #[true,true,true,true,true,true,true,true,true,true,true,true,true,true,true,true,true,true,true,false,false,false,false,false,false] rfl rfl (any_of HT_.out (by kernel_rfl)) (fun _ _ _ h=>h) (Or.inr ⟨by rfl,rfl⟩) ?_ ?_
                  rotate_left
                  ·simp only [Act.put,List.setIfInBounds_toArray,List.set_cons_zero,List.set_cons_succ,i64_w,i32_w]
                   rfl
                  refine pure_ (i:=19) (N:=some 137) (v:=undef) (a':=?_) #[true,true,true,true,true,true,true,true,true,true,true,true,true,true,true,true,true,true,true,true,false,false,false,false,false] rfl rfl (any_of HT_.out (by kernel_rfl)) (fun _ _ _ h=>h) (Or.inr ⟨by rfl,rfl⟩) ?_ ?_
                  rotate_left
                  ·simp only [Act.put,List.setIfInBounds_toArray,List.set_cons_zero,List.set_cons_succ,i64_w,i32_w]
                   rfl
                  refine pure_ (i:=20) (N:=some 138) (v:=undef) (a':=?_) #[true,true,true,true,true,true,true,true,true,true,true,true,true,true,true,true,true,true,true,true,true,false,false,false,false] rfl rfl (any_of HT_.out (by kernel_rfl)) (fun _ _ _ h=>h) (Or.inr ⟨by rfl,rfl⟩) ?_ ?_
                  rotate_left
                  ·simp only [Act.put,List.setIfInBounds_toArray,List.set_cons_zero,List.set_cons_succ,i64_w,i32_w]
                   rfl
                  refine pure_ (i:=21) (N:=some 139) (v:=undef) (a':=?_) #[true,true,true,true,true,true,true,true,true,true,true,true,true,true,true,true,true,true,true,true,true,true,false,false,false] rfl rfl (any_of HT_.out (by kernel_rfl)) (fun _ _ _ h=>h) (Or.inr ⟨by rfl,rfl⟩) ?_ ?_
                  rotate_left
                  ·simp only [Act.put,List.setIfInBounds_toArray,List.set_cons_zero,List.set_cons_succ,i64_w,i32_w]
                   rfl
                  refine pure_ (i:=22) (N:=some 140) (v:=undef) (a':=?_) #[true,true,true,true,true,true,true,true,true,true,true,true,true,true,true,true,true,true,true,true,true,true,true,false,false] rfl rfl (any_of HT_.out (by kernel_rfl)) (fun _ _ _ h=>h) (Or.inr ⟨by rfl,rfl⟩) ?_ ?_
                  rotate_left
                  ·simp only [Act.put,List.setIfInBounds_toArray,List.set_cons_zero,List.set_cons_succ,i64_w,i32_w]
                   rfl
                  refine pure_ (i:=23) (N:=some 141) (v:=undef) (a':=?_) #[true,true,true,true,true,true,true,true,true,true,true,true,true,true,true,true,true,true,true,true,true,true,true,true,false] rfl rfl (any_of HT_.out (by kernel_rfl)) (fun _ _ _ h=>h) (Or.inr ⟨by rfl,rfl⟩) ?_ ?_
                  rotate_left
                  ·simp only [Act.put,List.setIfInBounds_toArray,List.set_cons_zero,List.set_cons_succ,i64_w,i32_w]
                   rfl
                  refine pure_ (i:=24) (N:=some 142) (v:=?_) (a':=?_) #[true,true,true,true,true,true,true,true,true,true,true,true,true,true,true,true,true,true,true,true,true,true,true,true,true] rfl rfl (any_of HT_.out (by kernel_rfl)) (fun _ _ _ h=>h) (Or.inl ⟨by rfl,?_⟩) ?_ ?_
                  rotate_left
                  ·intro w'
                   go_simp
                   with_reducible rfl
                  rotate_left
                  ·simp only [Act.put,List.setIfInBounds_toArray,List.set_cons_zero,List.set_cons_succ,i64_w,i32_w]
                   rfl
                  refine done_ (done_of HT_.out (by kernel_rfl)) ?_
                  try go_wp2
                  go_meet
                  case rel=>exact ⟨_,(true),qz9,H',⟨qz65⟩,⟨qz17⟩,⟨qz56⟩,⟨qz55⟩,⟨qz5⟩⟩
                 ·rw [if_neg c55] at H
                  have c55b0:(t504 != t509)=false:=by simpa using c55
                  (try (have c55b1:decide (t504=t509)=true:=by simpa using c55))
                  (try (have c55b2:(t504 == t509)=true:=by simpa using c55))
                  clear c55
                  (first|rw [c55b0]|(simp only [i64_w,i32_w];rw [c55b0])|skip)
                  replace H:=Option.bind_eq_some_iff.mp H
                  obtain ⟨t512,A570,H⟩:=H
                  try dsimp only at H
                  have A57:=Aside0.mk A570
                  clear A570
                  by_cases c58:t512=true
                  ·subst c58
                   have H1:((impl_SubGet.f t470 ((rd_T30 t470 x13_4).f0)).bind fun t514=>((laws_caTerm.f k4 t514 ((rd_T30 t470 x13_4).f1)).bind fun t518=>(laws_FnSubFull.j4 k4 t470 x13_4 (!t518))))=some r:=qz34
                   clear H
                   have H:=H1
                   clear H1
                   replace H:=Option.bind_eq_some_iff.mp H
                   obtain ⟨t514,A590,H⟩:=H
                   try dsimp only at H
                   have A59:=Aside0.mk A590
                   clear A590
                   replace H:=Option.bind_eq_some_iff.mp H
                   obtain ⟨t518,A600,H⟩:=H
                   try dsimp only at H
                   have A60:=Aside0.mk A600
                   clear A600
                   have H':=Aside0.mk H
                   clear H
                   try go_wp2
                   have n0_:=Aside0.mk (Kd.S_drew HO_3.out)
                   have n1_:=Aside0.mk (Kd.R_drew HL499_1.out)
                   have n2_:=Aside0.mk (Kd.R_drew HO502.out)
                   have n3_:=Aside0.mk (Kd.R_drew HO506.out)
                   have n4_:=Aside0.mk (Kd.R_drew HL507_1.out)
                   have n5_:=Aside0.mk (Kd.R_drew HO511.out)
                   have n6_:=Aside0.mk (Kd.C_drew HR499_1.out)
                   have n7_:=Aside0.mk (Kd.C_drew HR507_1.out)
                   have n8_:=Aside0.mk (below_drew1 HB.out)
                   clear HO_3 HL499_1 HO502 HO506 HL507_1 HO511 HR499_1 HR507_1 HB
                   have HO_3:=n0_
                   have HL499_1:=n1_
                   have HO502:=n2_
                   have HO506:=n3_
                   have HL507_1:=n4_
                   have HO511:=n5_
                   have HR499_1:=n6_
                   have HR507_1:=n7_
                   have HB:=n8_
                   clear n0_ n1_ n2_ n3_ n4_ n5_ n6_ n7_ n8_
                   obtain ⟨Ao62,co62,eo62⟩:=Kd.R_slice HO506.out
                   (first|subst eo62|(injection eo62 with f1_ f2_ f3_;have f4_:=f1_.symm;have f5_:=f3_.symm;clear f1_ f2_ f3_;subst f4_;subst f5_))
                   obtain ⟨Ao63,co63,eo63⟩:=Kd.R_slice HO511.out
                   (first|subst eo63|(injection eo63 with f1_ f2_ f3_;have f4_:=f1_.symm;have f5_:=f3_.symm;clear f1_ f2_ f3_;subst f4_;subst f5_))
                   have p513:0≤(x13_4:Int):=of_decide_eq_true qz6
                   have q513:x13_4<(t470.length:Int):=of_decide_eq_true qz6
                   obtain ⟨ad513,A513_1,c513_1,e513,hx513_0,hx513_1,hl513_1,hi513_1⟩:=at_T30 (Kd.S_reads' HO_3.out).2.2 x13_4 p513 q513
                   obtain rfl:ad499=ad513:=(by injection e513)
                   obtain ⟨ce513,hce513,hMe513,hcc513⟩:=Kd.S_get HO_3.out z30 x13_4 p513 (by first|exact q513|exact of_decide_eq_true qz6|(have e_:=(Kd.S_reads' HO_3.out).1;omega))
                   obtain ⟨ve513_1,rfl,ge513_1⟩:=k30_openM hMe513
                   have hv513_1:=hcc513 1 _ rfl
                   rw [add_field _ _ 1 (by omega)] at hv513_1
                   replace hv513_1:=Option.some.inj (hv513_1.symm.trans hx513_1)
                   rw [hv513_1] at ge513_1
                   have HL513_1:=Aside0.mk (show Kd.R k46 46 _ _ _ _ ((rd_T30 t470 x13_4).f1) from ge513_1)
                   clear hv513_1 ge513_1 hcc513 hce513
                   have HR513_1:=Aside0.mk hi513_1
                   have HC513_1:=Aside0.mk hl513_1
                   clear hi513_1 hl513_1
                   replace p513:=eq_true p513
                   replace q513:=eq_true q513
                   have p517:0≤(x13_4:Int):=of_decide_eq_true qz6
                   have q517:x13_4<(t470.length:Int):=of_decide_eq_true qz6
                   obtain ⟨ad517,A517_1,c517_1,e517,hx517_0,hx517_1,hl517_1,hi517_1⟩:=at_T30 (Kd.S_reads' HO_3.out).2.2 x13_4 p517 q517
                   obtain rfl:ad499=ad517:=(by injection e517)
                   obtain ⟨ce517,hce517,hMe517,hcc517⟩:=Kd.S_get HO_3.out z30 x13_4 p517 (by first|exact q517|exact of_decide_eq_true qz6|(have e_:=(Kd.S_reads' HO_3.out).1;omega))
                   obtain ⟨ve517_1,rfl,ge517_1⟩:=k30_openM hMe517
                   have hv517_1:=hcc517 1 _ rfl
                   rw [add_field _ _ 1 (by omega)] at hv517_1
                   replace hv517_1:=Option.some.inj (hv517_1.symm.trans hx517_1)
                   rw [hv517_1] at ge517_1
                   have HL517_1:=Aside0.mk (show Kd.R k46 46 _ _ _ _ ((rd_T30 t470 x13_4).f1) from ge517_1)
                   clear hv517_1 ge517_1 hcc517 hce517
                   have HR517_1:=Aside0.mk hi517_1
                   have HC517_1:=Aside0.mk hl517_1
                   clear hi517_1 hl517_1
                   replace p517:=eq_true p517
                   replace q517:=eq_true q517
                   have ea_:=Option.some.inj (hx513_1.symm.trans hx517_1)
                   injection ea_ with ea_ en_ ec_
                   subst ea_
                   subst ec_
                   clear en_
                   refine start_ (n:=25) (S:=fun w'=>w'.cell? (ad499.add ((x13_4).toNat * 2))=some (.int .i64 ((rd_T30 t470 x13_4).f0))∧w'.cell? ⟨(ad499.add ((x13_4).toNat * 2)).block,(ad499.add ((x13_4).toNat * 2)).off+1,none⟩=some (.slice A513_1 ((rd_T30 t470 x13_4).f1).length c513_1)∧w'.cell? (ad499.add ((x13_4).toNat * 2))=some (.int .i64 ((rd_T30 t470 x13_4).f0))∧w'.cell? ⟨(ad499.add ((x13_4).toNat * 2)).block,(ad499.add ((x13_4).toNat * 2)).off+1,none⟩=some (.slice A513_1 ((rd_T30 t470 x13_4).f1).length c513_1)) (ds:=[]) #[false,false,false,false,false,false,false,false,false,false,false,false,false,false,false,false,false,false,false,false,false,false,false,false,false] (by kernel_rfl) rfl rfl ⟨hx513_0,hx513_1,hx517_0,hx517_1⟩ (fun hHeld=>?_);refine with_tabW laws_FnSubFull.tab24 laws_FnSubFull.bits24 (fun HT_ HW_=>?_)
                   generalize w54.drew=w61 at HO_3 HL499_1 HO502 HO506 HL507_1 HO511 HR499_1 HR507_1 HB HL513_1 HL517_1 HR513_1 HR517_1 hx513_0 hx513_1 hx517_0 hx517_1 hHeld ⊢
                   refine pure_ (i:=0) (N:=some 118) (v:=?_) (a':=?_) #[true,false,false,false,false,false,false,false,false,false,false,false,false,false,false,false,false,false,false,false,false,false,false,false,false] rfl rfl (any_of HT_.out (by kernel_rfl)) (fun _ _ _ h=>h) (Or.inl ⟨by rfl,?_⟩) ?_ ?_
                   rotate_left
                   ·intro w'
                    go_simp
                    with_reducible rfl
                   rotate_left
                   ·simp only [Act.put,List.setIfInBounds_toArray,List.set_cons_zero,List.set_cons_succ,i64_w,i32_w]
                    rfl
                   refine pure_ (i:=1) (N:=some 119) (v:=?_) (a':=?_) #[true,true,false,false,false,false,false,false,false,false,false,false,false,false,false,false,false,false,false,false,false,false,false,false,false] rfl rfl (any_of HT_.out (by kernel_rfl)) (fun _ _ _ h=>h) (Or.inl ⟨by rfl,?_⟩) ?_ ?_
                   rotate_left
                   ·intro w'
                    go_simp
                    with_reducible rfl
                   rotate_left
                   ·simp only [Act.put,List.setIfInBounds_toArray,List.set_cons_zero,List.set_cons_succ,i64_w,i32_w]
                    rfl
                   refine pure_ (i:=2) (N:=some 120) (v:=?_) (a':=?_) #[true,true,true,false,false,false,false,false,false,false,false,false,false,false,false,false,false,false,false,false,false,false,false,false,false] rfl rfl (any_of HT_.out (by kernel_rfl)) (fun _ _ _ h=>h) (Or.inl ⟨by rfl,?_⟩) ?_ ?_
                   rotate_left
                   ·intro w'
                    go_simp
                    with_reducible rfl
                   rotate_left
                   ·simp only [Act.put,List.setIfInBounds_toArray,List.set_cons_zero,List.set_cons_succ,i64_w,i32_w]
                    rfl
                   refine pure_ (i:=3) (N:=some 121) (v:=?_) (a':=?_) #[true,true,true,true,false,false,false,false,false,false,false,false,false,false,false,false,false,false,false,false,false,false,false,false,false] rfl rfl (any_of HT_.out (by kernel_rfl)) (fun _ _ _ h=>h) (Or.inl ⟨by rfl,?_⟩) ?_ ?_
                   rotate_left
                   ·intro w'
                    go_simp
                    with_reducible rfl
                   rotate_left
                   ·simp only [Act.put,List.setIfInBounds_toArray,List.set_cons_zero,List.set_cons_succ,i64_w,i32_w]
                    rfl
                   refine pure_ (i:=4) (N:=some 122) (v:=?_) (a':=?_) #[true,true,true,true,true,false,false,false,false,false,false,false,false,false,false,false,false,false,false,false,false,false,false,false,false] rfl rfl (any_of HT_.out (by kernel_rfl)) (fun _ _ _ h=>h) (Or.inl ⟨by rfl,?_⟩) ?_ ?_
                   rotate_left
                   ·intro w'
                    go_simp
                    with_reducible rfl
                   rotate_left
                   ·simp only [Act.put,List.setIfInBounds_toArray,List.set_cons_zero,List.set_cons_succ,i64_w,i32_w]
                    rfl
                   refine pure_ (i:=5) (N:=some 123) (v:=?_) (a':=?_) #[true,true,true,true,true,true,false,false,false,false,false,false,false,false,false,false,false,false,false,false,false,false,false,false,false] rfl rfl (any_of HT_.out (by kernel_rfl)) (fun _ _ _ h=>h) (Or.inl ⟨by rfl,?_⟩) ?_ ?_
                   rotate_left
                   ·intro w'
                    go_simp
                    with_reducible rfl
                   rotate_left
                   ·simp only [Act.put,List.setIfInBounds_toArray,List.set_cons_zero,List.set_cons_succ,i64_w,i32_w]
                    rfl
                   refine one_ (i:=6) (N:=some 124) #[true,true,true,true,true,true,true,false,false,false,false,false,false,false,false,false,false,false,false,false,false,false,false,false,false] rfl rfl (one_of HT_.out (by kernel_rfl)) (by decide) (fun K hK=>?_)
                   refine goes_ Tryd.func20 (by kernel_rfl) rfl #[.slice Ao62 t503.length co62,.slice Ao63 t508.length co63] (by rfl) rfl rfl qz14 ?_
                   with_reducible refine (laws_caTerm.calls k4 _ _ t503 _ _ t508 true _ ?side1 ?side2 ?side3 ?side4 A57.out).mono ?_
                   (case side1=>exact qz75)
                   (case side2=>exact (Kd.R_reads' HO506.out).2.1)
                   (case side3=>exact qz74)
                   (case side4=>exact (Kd.R_reads' HO511.out).2.1)
                   rintro e w' ⟨rfl,⟨nd,rfl⟩⟩
                   refine ⟨_,rfl,?_⟩
                   refine hK.out _ _ ⟨hHeld.1,hHeld.2.1,hHeld.2.2.1,hHeld.2.2.2⟩ (fun hHeld=>?_)
                   clear hK K
                   refine norm_ (a':=?_) ?_ ?_
                   rotate_left
                   ·show Act.put _ (some 124) _=_
                    simp only [Act.put,List.setIfInBounds_toArray,List.set_cons_zero,List.set_cons_succ,i64_w,i32_w]
                    rfl
                   refine pure_ (i:=7) (N:=some 125) (v:=?_) (a':=?_) #[true,true,true,true,true,true,true,true,false,false,false,false,false,false,false,false,false,false,false,false,false,false,false,false,false] rfl rfl (any_of HT_.out (by kernel_rfl)) (fun _ _ _ h=>h) (Or.inl ⟨by rfl,?_⟩) ?_ ?_
                   rotate_left
                   ·intro w'
                    go_simp
                    with_reducible rfl
                   rotate_left
                   ·simp only [Act.put,List.setIfInBounds_toArray,List.set_cons_zero,List.set_cons_succ,i64_w,i32_w]
                    rfl
                   refine pure_ (i:=8) (N:=some 126) (v:=?_) (a':=?_) #[true,true,true,true,true,true,true,true,true,false,false,false,false,false,false,false,false,false,false,false,false,false,false,false,false] rfl rfl (any_of HT_.out (by kernel_rfl)) (fun _ _ _ h=>h) (Or.inl ⟨by rfl,?_⟩) ?_ ?_
                   rotate_left
                   ·intro w'
                    go_simp
                    with_reducible rfl
                   rotate_left
                   ·simp only [Act.put,List.setIfInBounds_toArray,List.set_cons_zero,List.set_cons_succ,i64_w,i32_w]
                    rfl
                   refine pure_ (i:=9) (N:=some 127) (v:=?_) (a':=?_) #[true,true,true,true,true,true,true,true,true,true,false,false,false,false,false,false,false,false,false,false,false,false,false,false,false] rfl rfl (any_of HT_.out (by kernel_rfl)) (fun _ _ _ h=>h) (Or.inl ⟨by rfl,?_⟩) ?_ ?_
                   rotate_left
                   ·intro w'
                    go_simp
                    with_reducible rfl
                   rotate_left
                   ·simp only [Act.put,List.setIfInBounds_toArray,List.set_cons_zero,List.set_cons_succ,i64_w,i32_w]
                    rfl
                   refine pure_ (i:=10) (N:=some 128) (v:=?_) (a':=?_) #[true,true,true,true,true,true,true,true,true,true,true,false,false,false,false,false,false,false,false,false,false,false,false,false,false] rfl rfl (any_of HT_.out (by kernel_rfl)) (fun _ _ _ h=>h) (Or.inl ⟨by rfl,?_⟩) ?_ ?_
                   rotate_left
                   ·intro w'
                    go_simp
                    with_reducible rfl
                   rotate_left
                   ·simp only [Act.put,List.setIfInBounds_toArray,List.set_cons_zero,List.set_cons_succ,i64_w,i32_w]
                    rfl
                   refine pure_ (i:=11) (N:=some 129) (v:=?_) (a':=?_) #[true,true,true,true,true,true,true,true,true,true,true,true,false,false,false,false,false,false,false,false,false,false,false,false,false] rfl rfl (any_of HT_.out (by kernel_rfl)) (fun _ _ _ h=>h) (Or.inl ⟨by rfl,?_⟩) ?_ ?_
                   rotate_left
                   ·intro w'
                    go_simp
                    with_reducible rfl
                   rotate_left
                   ·simp only [Act.put,List.setIfInBounds_toArray,List.set_cons_zero,List.set_cons_succ,i64_w,i32_w]
                    rfl
                   refine pure_ (i:=12) (N:=some 130) (v:=?_) (a':=?_) #[true,true,true,true,true,true,true,true,true,true,true,true,true,false,false,false,false,false,false,false,false,false,false,false,false] rfl rfl (any_of HT_.out (by kernel_rfl)) (fun _ _ _ h=>h) (Or.inl ⟨by rfl,?_⟩) ?_ ?_
                   rotate_left
                   ·intro w'
                    go_simp
                    with_reducible rfl
                   rotate_left
                   ·simp only [Act.put,List.setIfInBounds_toArray,List.set_cons_zero,List.set_cons_succ,i64_w,i32_w]
                    rfl
                   refine pure_ (i:=13) (N:=some 131) (v:=?_) (a':=?_) #[true,true,true,true,true,true,true,true,true,true,true,true,true,true,false,false,false,false,false,false,false,false,false,false,false] rfl rfl (any_of HT_.out (by kernel_rfl)) (fun _ _ _ h=>h) (Or.inl ⟨by rfl,?_⟩) ?_ ?_
                   rotate_left
                   ·intro w'
                    go_simp
                    with_reducible rfl
                   rotate_left
                   ·simp only [Act.put,List.setIfInBounds_toArray,List.set_cons_zero,List.set_cons_succ,i64_w,i32_w]
                    rfl
                   refine pure_ (i:=14) (N:=some 132) (v:=?_) (a':=?_) #[true,true,true,true,true,true,true,true,true,true,true,true,true,true,true,false,false,false,false,false,false,false,false,false,false] rfl rfl (any_of HT_.out (by kernel_rfl)) (fun _ _ _ h=>h) (Or.inl ⟨by rfl,?_⟩) ?_ ?_
                   rotate_left
                   ·intro w'
                    go_simp
                    with_reducible rfl
                   rotate_left
                   ·simp only [Act.put,List.setIfInBounds_toArray,List.set_cons_zero,List.set_cons_succ,i64_w,i32_w]
                    rfl
                   refine pure_ (i:=17) (N:=some 135) (v:=?_) (a':=?_) #[true,true,true,true,true,true,true,true,true,true,true,true,true,true,true,false,false,true,false,false,false,false,false,false,false] rfl rfl (any_of HT_.out (by kernel_rfl)) (fun _ _ _ h=>h) (Or.inl ⟨by rfl,?_⟩) ?_ ?_
                   rotate_left
                   ·intro w'
                    go_simp
                    with_reducible rfl
                   rotate_left
                   ·simp only [Act.put,List.setIfInBounds_toArray,List.set_cons_zero,List.set_cons_succ,i64_w,i32_w]
                    rfl
                   refine pure_ (i:=18) (N:=some 136) (v:=?_) (a':=?_) #[true,true,true,true,true,true,true,true,true,true,true,true,true,true,true,false,false,true,true,false,false,false,false,false,false] rfl rfl (any_of HT_.out (by kernel_rfl)) (fun _ _ _ h=>h) (Or.inl ⟨by rfl,?_⟩) ?_ ?_
                   rotate_left
                   ·intro w'
                    go_simp
                    with_reducible rfl
                   rotate_left
                   ·simp only [Act.put,List.setIfInBounds_toArray,List.set_cons_zero,List.set_cons_succ,i64_w,i32_w]
                    rfl
                   refine pure_ (i:=19) (N:=some 137) (v:=?_) (a':=?_) #[true,true,true,true,true,true,true,true,true,true,true,true,true,true,true,false,false,true,true,true,false,false,false,false,false] rfl rfl (any_of HT_.out (by kernel_rfl)) (fun _ _ _ h=>h) (Or.inl ⟨by rfl,?_⟩) ?_ ?_
                   rotate_left
                   ·intro w'
                    go_simp
                    with_reducible rfl
                   rotate_left
                   ·simp only [Act.put,List.setIfInBounds_toArray,List.set_cons_zero,List.set_cons_succ,i64_w,i32_w]
                    rfl
                   refine pure_ (i:=20) (N:=some 138) (v:=?_) (a':=?_) #[true,true,true,true,true,true,true,true,true,true,true,true,true,true,true,false,false,true,true,true,true,false,false,false,false] rfl rfl (any_of HT_.out (by kernel_rfl)) (fun _ _ _ h=>h) (Or.inl ⟨by rfl,?_⟩) ?_ ?_
                   rotate_left
                   ·intro w'
                    go_simp
                    with_reducible rfl
                   rotate_left
                   ·simp only [Act.put,List.setIfInBounds_toArray,List.set_cons_zero,List.set_cons_succ,i64_w,i32_w]
                    rfl
                   refine take_ (i:=15) (N:=some 133) (v:=?_) (a':=?_) #[true,true,true,true,true,true,true,true,true,true,true,true,true,true,true,true,false,true,true,true,true,false,false,false,false] rfl rfl (take_ofW HT_.out HW_.out (by kernel_rfl)) (fun _ _ _ h=>h) (Or.inl ⟨by rfl,?_⟩) hHeld ?_ ?_
                   rotate_left
                   ·rintro w' ⟨s0,s1,s2,s3⟩
                    go_simp
                    with_reducible rfl
                   rotate_left
                   ·simp only [Act.put,List.setIfInBounds_toArray,List.set_cons_zero,List.set_cons_succ,i64_w,i32_w]
                    rfl
                   refine take_ (i:=21) (N:=some 139) (v:=?_) (a':=?_) #[true,true,true,true,true,true,true,true,true,true,true,true,true,true,true,true,false,true,true,true,true,true,false,false,false] rfl rfl (take_ofW HT_.out HW_.out (by kernel_rfl)) (fun _ _ _ h=>h) (Or.inl ⟨by rfl,?_⟩) hHeld ?_ ?_
                   rotate_left
                   ·rintro w' ⟨s0,s1,s2,s3⟩
                    go_simp
                    with_reducible rfl
                   rotate_left
                   ·simp only [Act.put,List.setIfInBounds_toArray,List.set_cons_zero,List.set_cons_succ,i64_w,i32_w]
                    rfl
                   refine one_ (i:=16) (N:=some 134) #[true,true,true,true,true,true,true,true,true,true,true,true,true,true,true,true,true,true,true,true,true,true,false,false,false] rfl rfl (one_of HT_.out (by kernel_rfl)) (by decide) (fun K hK=>?_)
                   refine goes_ Tryd.func19 (by kernel_rfl) rfl #[.slice (some ad499) t470.length co8,.int .i64 ((rd_T30 t470 x13_4).f0)] (by rfl) rfl rfl qz14 ?_
                   with_reducible refine (impl_SubGet.calls _ _ t470 ((rd_T30 t470 x13_4).f0) t514 _ ?side1 ?side2 A59.out).mono ?_
                   (case side1=>exact qz37)
                   (case side2=>exact (Kd.S_reads' HO_3.out).2.1)
                   rintro e w64 ⟨v515,rfl,ho0,hb⟩
                   have HS0_:=(hb.cell (World.block_lt_of_cell? _ _ (hHeld.1))).trans (hHeld.1)
                   have HS1_:=(hb.cell (World.block_lt_of_cell? _ _ (hHeld.2.1))).trans (hHeld.2.1)
                   have HS2_:=(hb.cell (World.block_lt_of_cell? _ _ (hHeld.2.2.1))).trans (hHeld.2.2.1)
                   have HS3_:=(hb.cell (World.block_lt_of_cell? _ _ (hHeld.2.2.2))).trans (hHeld.2.2.2)
                   refine ⟨_,rfl,?_⟩
                   have n0_:=Aside0.mk (Kd.S_below qz17 hb)
                   have n1_:=Aside0.mk (Kd.R_below qz59 hb)
                   have n2_:=Aside0.mk (Kd.R_below qz67 hb)
                   have n3_:=Aside0.mk (Kd.R_below (by (with_reducible repeat (first|apply Kd.R_alloc|apply Kd.R_drewN|apply Kd.R_drew));exact HO506.out) hb)
                   have n4_:=Aside0.mk (Kd.R_below (by (with_reducible repeat (first|apply Kd.R_alloc|apply Kd.R_drewN|apply Kd.R_drew));exact HL507_1.out) hb)
                   have n5_:=Aside0.mk (Kd.R_below (by (with_reducible repeat (first|apply Kd.R_alloc|apply Kd.R_drewN|apply Kd.R_drew));exact HO511.out) hb)
                   have n6_:=Aside0.mk (Kd.R_below (by (with_reducible repeat (first|apply Kd.R_alloc|apply Kd.R_drewN|apply Kd.R_drew));exact HL513_1.out) hb)
                   have n7_:=Aside0.mk (Kd.R_lower ho0 (below_size qz4))
                   have n8_:=Aside0.mk (Kd.C_below qz39 hb)
                   have n9_:=Aside0.mk (Kd.C_below qz48 hb)
                   have n10_:=Aside0.mk (Kd.C_below (by first|(with_reducible exact Kd.C_drewN HR513_1.out _)|(repeat (first|(with_reducible exact HR513_1.out)|(with_reducible refine Kd.C_alloc ?_ _)|(with_reducible refine Kd.C_drewN ?_ _)|(with_reducible refine Kd.C_drew ?_)|exact HR513_1.out))) hb)
                   have n11_:=Aside0.mk (below_step qz4 hb)
                   clear HO_3 HL499_1 HO502 HO506 HL507_1 HO511 HL513_1 HR499_1 HR507_1 HR513_1 HB
                   have HO_3:=n0_
                   have HL499_1:=n1_
                   have HO502:=n2_
                   have HO506:=n3_
                   have HL507_1:=n4_
                   have HO511:=n5_
                   have HL513_1:=n6_
                   have HO516:=n7_
                   have HR499_1:=n8_
                   have HR507_1:=n9_
                   have HR513_1:=n10_
                   have HB:=n11_
                   clear n0_ n1_ n2_ n3_ n4_ n5_ n6_ n7_ n8_ n9_ n10_ n11_
                   with_reducible first|(replace HL517_1:=Aside0.mk (Kd.R_below HL517_1.out hb))|(replace HL517_1:=Aside0.mk (Kd.R_below (Kd.R_drewN HL517_1.out _) hb))
                   with_reducible first|(replace HR517_1:=Aside0.mk (Kd.C_below HR517_1.out hb))|(replace HR517_1:=Aside0.mk (Kd.C_below (Kd.C_drewN HR517_1.out _) hb))
                   (try clear hb)
                   (try clear hb2)
                   (try clear hk)
                   (try clear hi)
                   (try clear ho0)
                   obtain ⟨Ao65,co65,eo65⟩:=Kd.R_slice HO516.out
                   (first|subst eo65|(injection eo65 with f1_ f2_ f3_;have f4_:=f1_.symm;have f5_:=f3_.symm;clear f1_ f2_ f3_;subst f4_;subst f5_))
                   refine hK.out _ _ ⟨HS0_,HS1_,HS2_,HS3_⟩ (fun hHeld=>?_)
                   clear hK K
                   refine norm_ (a':=?_) ?_ ?_
                   rotate_left
                   ·show Act.put _ (some 134) _=_
                    simp only [Act.put,List.setIfInBounds_toArray,List.set_cons_zero,List.set_cons_succ,i64_w,i32_w]
                    rfl
                   refine one_ (i:=22) (N:=some 140) #[true,true,true,true,true,true,true,true,true,true,true,true,true,true,true,true,true,true,true,true,true,true,true,false,false] rfl rfl (one_of HT_.out (by kernel_rfl)) (by decide) (fun K hK=>?_)
                   refine goes_ Tryd.func20 (by kernel_rfl) rfl #[.slice Ao65 t514.length co65,.slice A513_1 ((rd_T30 t470 x13_4).f1).length c513_1] (by rfl) rfl rfl qz14 ?_
                   with_reducible refine (laws_caTerm.calls k4 _ _ t514 _ _ ((rd_T30 t470 x13_4).f1) t518 _ ?side1 ?side2 ?side3 ?side4 A60.out).mono ?_
                   (case side1=>repeat (first|exact (Kd.R_reads' HO516.out).2.2|(with_reducible refine Kd.C_alloc ?_ _)|(with_reducible refine Kd.C_drewN ?_ _)|(with_reducible refine Kd.C_drew ?_)))
                   (case side2=>exact (Kd.R_reads' HO516.out).2.1)
                   (case side3=>repeat (first|exact (by first|(with_reducible exact Kd.C_drewN HR517_1.out _)|(repeat (first|(with_reducible exact HR517_1.out)|(with_reducible refine Kd.C_alloc ?_ _)|(with_reducible refine Kd.C_drewN ?_ _)|(with_reducible refine Kd.C_drew ?_)|exact HR517_1.out)))|(with_reducible refine Kd.C_alloc ?_ _)|(with_reducible refine Kd.C_drewN ?_ _)|(with_reducible refine Kd.C_drew ?_)))
                   (case side4=>exact HC517_1.out)
                   rintro e w' ⟨rfl,⟨nd,rfl⟩⟩
                   refine ⟨_,rfl,?_⟩
                   refine hK.out _ _ ⟨hHeld.1,hHeld.2.1,hHeld.2.2.1,hHeld.2.2.2⟩ (fun hHeld=>?_)
                   clear hK K
                   refine norm_ (a':=?_) ?_ ?_
                   rotate_left
                   ·show Act.put _ (some 140) _=_
                    simp only [Act.put,List.setIfInBounds_toArray,List.set_cons_zero,List.set_cons_succ,i64_w,i32_w]
                    rfl
                   refine pure_ (i:=23) (N:=some 141) (v:=?_) (a':=?_) #[true,true,true,true,true,true,true,true,true,true,true,true,true,true,true,true,true,true,true,true,true,true,true,true,false] rfl rfl (any_of HT_.out (by kernel_rfl)) (fun _ _ _ h=>h) (Or.inl ⟨by rfl,?_⟩) ?_ ?_
                   rotate_left
                   ·intro w'
                    go_simp
                    with_reducible rfl
                   rotate_left
                   ·simp only [Act.put,List.setIfInBounds_toArray,List.set_cons_zero,List.set_cons_succ,i64_w,i32_w]
                    rfl
                   refine pure_ (i:=24) (N:=some 142) (v:=?_) (a':=?_) #[true,true,true,true,true,true,true,true,true,true,true,true,true,true,true,true,true,true,true,true,true,true,true,true,true] rfl rfl (any_of HT_.out (by kernel_rfl)) (fun _ _ _ h=>h) (Or.inl ⟨by rfl,?_⟩) ?_ ?_
                   rotate_left
                   ·intro w'
                    go_simp
                    with_reducible rfl
                   rotate_left
                   ·simp only [Act.put,List.setIfInBounds_toArray,List.set_cons_zero,List.set_cons_succ,i64_w,i32_w]
                    rfl
                   refine done_ (done_of HT_.out (by kernel_rfl)) ?_
                   try go_wp2
                   go_meet
                   case rel=>exact ⟨_,(!t518),qz9,H',⟨qz65⟩,⟨qz17⟩,⟨qz56⟩,⟨qz55⟩,⟨qz5⟩⟩
                  ·replace c58:=Bool.eq_false_iff.mpr c58
                   subst c58
                   have H1:(laws_FnSubFull.j4 k4 t470 x13_4 true)=some r:=qz21
                   clear H
                   have H:=H1
                   clear H1
                   have H':=Aside0.mk H
                   clear H
                   try go_wp2
                   have n0_:=Aside0.mk (Kd.S_drew HO_3.out)
                   have n1_:=Aside0.mk (Kd.R_drew HL499_1.out)
                   have n2_:=Aside0.mk (Kd.R_drew HO502.out)
                   have n3_:=Aside0.mk (Kd.R_drew HO506.out)
                   have n4_:=Aside0.mk (Kd.R_drew HL507_1.out)
                   have n5_:=Aside0.mk (Kd.R_drew HO511.out)
                   have n6_:=Aside0.mk (Kd.C_drew HR499_1.out)
                   have n7_:=Aside0.mk (Kd.C_drew HR507_1.out)
                   have n8_:=Aside0.mk (below_drew1 HB.out)
                   clear HO_3 HL499_1 HO502 HO506 HL507_1 HO511 HR499_1 HR507_1 HB
                   have HO_3:=n0_
                   have HL499_1:=n1_
                   have HO502:=n2_
                   have HO506:=n3_
                   have HL507_1:=n4_
                   have HO511:=n5_
                   have HR499_1:=n6_
                   have HR507_1:=n7_
                   have HB:=n8_
                   clear n0_ n1_ n2_ n3_ n4_ n5_ n6_ n7_ n8_
                   obtain ⟨Ao67,co67,eo67⟩:=Kd.R_slice HO506.out
                   (first|subst eo67|(injection eo67 with f1_ f2_ f3_;have f4_:=f1_.symm;have f5_:=f3_.symm;clear f1_ f2_ f3_;subst f4_;subst f5_))
                   obtain ⟨Ao68,co68,eo68⟩:=Kd.R_slice HO511.out
                   (first|subst eo68|(injection eo68 with f1_ f2_ f3_;have f4_:=f1_.symm;have f5_:=f3_.symm;clear f1_ f2_ f3_;subst f4_;subst f5_))
                   refine start_ (n:=25) (S:=fun w'=>True) (ds:=[]) #[false,false,false,false,false,false,false,false,false,false,false,false,false,false,false,false,false,false,false,false,false,false,false,false,false] (by kernel_rfl) rfl rfl trivial (fun hHeld=>?_);refine with_tabW laws_FnSubFull.tab24 laws_FnSubFull.bits24 (fun HT_ HW_=>?_)
                   generalize w54.drew=w66 at HO_3 HL499_1 HO502 HO506 HL507_1 HO511 HR499_1 HR507_1 HB hHeld ⊢
                   refine pure_ (i:=0) (N:=some 118) (v:=?_) (a':=?_) #[true,false,false,false,false,false,false,false,false,false,false,false,false,false,false,false,false,false,false,false,false,false,false,false,false] rfl rfl (any_of HT_.out (by kernel_rfl)) (fun _ _ _ h=>h) (Or.inl ⟨by rfl,?_⟩) ?_ ?_
                   rotate_left
                   ·intro w'
                    go_simp
                    with_reducible rfl
                   rotate_left
                   ·simp only [Act.put,List.setIfInBounds_toArray,List.set_cons_zero,List.set_cons_succ,i64_w,i32_w]
                    rfl
                   refine pure_ (i:=1) (N:=some 119) (v:=?_) (a':=?_) #[true,true,false,false,false,false,false,false,false,false,false,false,false,false,false,false,false,false,false,false,false,false,false,false,false] rfl rfl (any_of HT_.out (by kernel_rfl)) (fun _ _ _ h=>h) (Or.inl ⟨by rfl,?_⟩) ?_ ?_
                   rotate_left
                   ·intro w'
                    go_simp
                    with_reducible rfl
                   rotate_left
                   ·simp only [Act.put,List.setIfInBounds_toArray,List.set_cons_zero,List.set_cons_succ,i64_w,i32_w]
                    rfl
                   refine pure_ (i:=2) (N:=some 120) (v:=?_) (a':=?_) #[true,true,true,false,false,false,false,false,false,false,false,false,false,false,false,false,false,false,false,false,false,false,false,false,false] rfl rfl (any_of HT_.out (by kernel_rfl)) (fun _ _ _ h=>h) (Or.inl ⟨by rfl,?_⟩) ?_ ?_
                   rotate_left
                   ·intro w'
                    go_simp
                    with_reducible rfl
                   rotate_left
                   ·simp only [Act.put,List.setIfInBounds_toArray,List.set_cons_zero,List.set_cons_succ,i64_w,i32_w]
                    rfl
                   refine pure_ (i:=3) (N:=some 121) (v:=?_) (a':=?_) #[true,true,true,true,false,false,false,false,false,false,false,false,false,false,false,false,false,false,false,false,false,false,false,false,false] rfl rfl (any_of HT_.out (by kernel_rfl)) (fun _ _ _ h=>h) (Or.inl ⟨by rfl,?_⟩) ?_ ?_
                   rotate_left
                   ·intro w'
                    go_simp
                    with_reducible rfl
                   rotate_left
                   ·simp only [Act.put,List.setIfInBounds_toArray,List.set_cons_zero,List.set_cons_succ,i64_w,i32_w]
                    rfl
                   refine pure_ (i:=4) (N:=some 122) (v:=?_) (a':=?_) #[true,true,true,true,true,false,false,false,false,false,false,false,false,false,false,false,false,false,false,false,false,false,false,false,false] rfl rfl (any_of HT_.out (by kernel_rfl)) (fun _ _ _ h=>h) (Or.inl ⟨by rfl,?_⟩) ?_ ?_
                   rotate_left
                   ·intro w'
                    go_simp
                    with_reducible rfl
                   rotate_left
                   ·simp only [Act.put,List.setIfInBounds_toArray,List.set_cons_zero,List.set_cons_succ,i64_w,i32_w]
                    rfl
                   refine pure_ (i:=5) (N:=some 123) (v:=?_) (a':=?_) #[true,true,true,true,true,true,false,false,false,false,false,false,false,false,false,false,false,false,false,false,false,false,false,false,false] rfl rfl (any_of HT_.out (by kernel_rfl)) (fun _ _ _ h=>h) (Or.inl ⟨by rfl,?_⟩) ?_ ?_
                   rotate_left
                   ·intro w'
                    go_simp
                    with_reducible rfl
                   rotate_left
                   ·simp only [Act.put,List.setIfInBounds_toArray,List.set_cons_zero,List.set_cons_succ,i64_w,i32_w]
                    rfl
                   refine one_ (i:=6) (N:=some 124) #[true,true,true,true,true,true,true,false,false,false,false,false,false,false,false,false,false,false,false,false,false,false,false,false,false] rfl rfl (one_of HT_.out (by kernel_rfl)) (by decide) (fun K hK=>?_)
                   refine goes_ Tryd.func20 (by kernel_rfl) rfl #[.slice Ao67 t503.length co67,.slice Ao68 t508.length co68] (by rfl) rfl rfl qz14 ?_
                   with_reducible refine (laws_caTerm.calls k4 _ _ t503 _ _ t508 false _ ?side1 ?side2 ?side3 ?side4 A57.out).mono ?_
                   (case side1=>exact qz75)
                   (case side2=>exact (Kd.R_reads' HO506.out).2.1)
                   (case side3=>exact qz74)
                   (case side4=>exact (Kd.R_reads' HO511.out).2.1)
                   rintro e w' ⟨rfl,⟨nd,rfl⟩⟩
                   refine ⟨_,rfl,?_⟩
                   refine hK.out _ _ trivial (fun hHeld=>?_)
                   clear hK K
                   refine norm_ (a':=?_) ?_ ?_
                   rotate_left
                   ·show Act.put _ (some 124) _=_
                    simp only [Act.put,List.setIfInBounds_toArray,List.set_cons_zero,List.set_cons_succ,i64_w,i32_w]
                    rfl
                   refine pure_ (i:=7) (N:=some 125) (v:=?_) (a':=?_) #[true,true,true,true,true,true,true,true,false,false,false,false,false,false,false,false,false,false,false,false,false,false,false,false,false] rfl rfl (any_of HT_.out (by kernel_rfl)) (fun _ _ _ h=>h) (Or.inl ⟨by rfl,?_⟩) ?_ ?_
                   rotate_left
                   ·intro w'
                    go_simp
                    with_reducible rfl
                   rotate_left
                   ·simp only [Act.put,List.setIfInBounds_toArray,List.set_cons_zero,List.set_cons_succ,i64_w,i32_w]
                    rfl
                   refine pure_ (i:=8) (N:=some 126) (v:=?_) (a':=?_) #[true,true,true,true,true,true,true,true,true,false,false,false,false,false,false,false,false,false,false,false,false,false,false,false,false] rfl rfl (any_of HT_.out (by kernel_rfl)) (fun _ _ _ h=>h) (Or.inl ⟨by rfl,?_⟩) ?_ ?_
                   rotate_left
                   ·intro w'
                    go_simp
                    with_reducible rfl
                   rotate_left
                   ·simp only [Act.put,List.setIfInBounds_toArray,List.set_cons_zero,List.set_cons_succ,i64_w,i32_w]
                    rfl
                   refine pure_ (i:=9) (N:=some 127) (v:=?_) (a':=?_) #[true,true,true,true,true,true,true,true,true,true,false,false,false,false,false,false,false,false,false,false,false,false,false,false,false] rfl rfl (any_of HT_.out (by kernel_rfl)) (fun _ _ _ h=>h) (Or.inl ⟨by rfl,?_⟩) ?_ ?_
                   rotate_left
                   ·intro w'
                    go_simp
                    with_reducible rfl
                   rotate_left
                   ·simp only [Act.put,List.setIfInBounds_toArray,List.set_cons_zero,List.set_cons_succ,i64_w,i32_w]
                    rfl
                   refine pure_ (i:=10) (N:=some 128) (v:=undef) (a':=?_) #[true,true,true,true,true,true,true,true,true,true,true,false,false,false,false,false,false,false,false,false,false,false,false,false,false] rfl rfl (any_of HT_.out (by kernel_rfl)) (fun _ _ _ h=>h) (Or.inr ⟨by rfl,rfl⟩) ?_ ?_
                   rotate_left
                   ·simp only [Act.put,List.setIfInBounds_toArray,List.set_cons_zero,List.set_cons_succ,i64_w,i32_w]
                    rfl
                   refine pure_ (i:=11) (N:=some 129) (v:=undef) (a':=?_) #[true,true,true,true,true,true,true,true,true,true,true,true,false,false,false,false,false,false,false,false,false,false,false,false,false] rfl rfl (any_of HT_.out (by kernel_rfl)) (fun _ _ _ h=>h) (Or.inr ⟨by rfl,rfl⟩) ?_ ?_
                   rotate_left
                   ·simp only [Act.put,List.setIfInBounds_toArray,List.set_cons_zero,List.set_cons_succ,i64_w,i32_w]
                    rfl
                   refine pure_ (i:=12) (N:=some 130) (v:=undef) (a':=?_) #[true,true,true,true,true,true,true,true,true,true,true,true,true,false,false,false,false,false,false,false,false,false,false,false,false] rfl rfl (any_of HT_.out (by kernel_rfl)) (fun _ _ _ h=>h) (Or.inr ⟨by rfl,rfl⟩) ?_ ?_
                   rotate_left
                   ·simp only [Act.put,List.setIfInBounds_toArray,List.set_cons_zero,List.set_cons_succ,i64_w,i32_w]
                    rfl
                   refine pure_ (i:=13) (N:=some 131) (v:=undef) (a':=?_) #[true,true,true,true,true,true,true,true,true,true,true,true,true,true,false,false,false,false,false,false,false,false,false,false,false] rfl rfl (any_of HT_.out (by kernel_rfl)) (fun _ _ _ h=>h) (Or.inr ⟨by rfl,rfl⟩) ?_ ?_
                   rotate_left
                   ·simp only [Act.put,List.setIfInBounds_toArray,List.set_cons_zero,List.set_cons_succ,i64_w,i32_w]
                    rfl
                   refine pure_ (i:=14) (N:=some 132) (v:=undef) (a':=?_) #[true,true,true,true,true,true,true,true,true,true,true,true,true,true,true,false,false,false,false,false,false,false,false,false,false] rfl rfl (any_of HT_.out (by kernel_rfl)) (fun _ _ _ h=>h) (Or.inr ⟨by rfl,rfl⟩) ?_ ?_
                   rotate_left
                   ·simp only [Act.put,List.setIfInBounds_toArray,List.set_cons_zero,List.set_cons_succ,i64_w,i32_w]
                    rfl
                   refine pure_ (i:=15) (N:=some 133) (v:=undef) (a':=?_) #[true,true,true,true,true,true,true,true,true,true,true,true,true,true,true,true,false,false,false,false,false,false,false,false,false] rfl rfl (any_of HT_.out (by kernel_rfl)) (fun _ _ _ h=>h) (Or.inr ⟨by rfl,rfl⟩) ?_ ?_
                   rotate_left
                   ·simp only [Act.put,List.setIfInBounds_toArray,List.set_cons_zero,List.set_cons_succ,i64_w,i32_w]
                    rfl
                   refine pure_ (i:=16) (N:=some 134) (v:=undef) (a':=?_) #[true,true,true,true,true,true,true,true,true,true,true,true,true,true,true,true,true,false,false,false,false,false,false,false,false] rfl rfl (any_of HT_.out (by kernel_rfl)) (fun _ _ _ h=>h) (Or.inr ⟨by rfl,rfl⟩) ?_ ?_
                   rotate_left
                   ·simp only [Act.put,List.setIfInBounds_toArray,List.set_cons_zero,List.set_cons_succ,i64_w,i32_w]
                    rfl
                   refine pure_ (i:=17) (N:=some 135) (v:=undef) (a':=?_) #[true,true,true,true,true,true,true,true,true,true,true,true,true,true,true,true,true,true,false,false,false,false,false,false,false] rfl rfl (any_of HT_.out (by kernel_rfl)) (fun _ _ _ h=>h) (Or.inr ⟨by rfl,rfl⟩) ?_ ?_
                   rotate_left
                   ·simp only [Act.put,List.setIfInBounds_toArray,List.set_cons_zero,List.set_cons_succ,i64_w,i32_w]
                    rfl
                   refine pure_ (i:=18) (N:=some 136) (v:=undef) (a':=?_) #[true,true,true,true,true,true,true,true,true,true,true,true,true,true,true,true,true,true,true,false,false,false,false,false,false] rfl rfl (any_of HT_.out (by kernel_rfl)) (fun _ _ _ h=>h) (Or.inr ⟨by rfl,rfl⟩) ?_ ?_
                   rotate_left
                   ·simp only [Act.put,List.setIfInBounds_toArray,List.set_cons_zero,List.set_cons_succ,i64_w,i32_w]
                    rfl
                   refine pure_ (i:=19) (N:=some 137) (v:=undef) (a':=?_) #[true,true,true,true,true,true,true,true,true,true,true,true,true,true,true,true,true,true,true,true,false,false,false,false,false] rfl rfl (any_of HT_.out (by kernel_rfl)) (fun _ _ _ h=>h) (Or.inr ⟨by rfl,rfl⟩) ?_ ?_
                   rotate_left
                   ·simp only [Act.put,List.setIfInBounds_toArray,List.set_cons_zero,List.set_cons_succ,i64_w,i32_w]
                    rfl
                   refine pure_ (i:=20) (N:=some 138) (v:=undef) (a':=?_) #[true,true,true,true,true,true,true,true,true,true,true,true,true,true,true,true,true,true,true,true,true,false,false,false,false] rfl rfl (any_of HT_.out (by kernel_rfl)) (fun _ _ _ h=>h) (Or.inr ⟨by rfl,rfl⟩) ?_ ?_
                   rotate_left
                   ·simp only [Act.put,List.setIfInBounds_toArray,List.set_cons_zero,List.set_cons_succ,i64_w,i32_w]
                    rfl
                   refine pure_ (i:=21) (N:=some 139) (v:=undef) (a':=?_) #[true,true,true,true,true,true,true,true,true,true,true,true,true,true,true,true,true,true,true,true,true,true,false,false,false] rfl rfl (any_of HT_.out (by kernel_rfl)) (fun _ _ _ h=>h) (Or.inr ⟨by rfl,rfl⟩) ?_ ?_
                   rotate_left
                   ·simp only [Act.put,List.setIfInBounds_toArray,List.set_cons_zero,List.set_cons_succ,i64_w,i32_w]
                    rfl
                   refine pure_ (i:=22) (N:=some 140) (v:=undef) (a':=?_) #[true,true,true,true,true,true,true,true,true,true,true,true,true,true,true,true,true,true,true,true,true,true,true,false,false] rfl rfl (any_of HT_.out (by kernel_rfl)) (fun _ _ _ h=>h) (Or.inr ⟨by rfl,rfl⟩) ?_ ?_
                   rotate_left
                   ·simp only [Act.put,List.setIfInBounds_toArray,List.set_cons_zero,List.set_cons_succ,i64_w,i32_w]
                    rfl
                   refine pure_ (i:=23) (N:=some 141) (v:=undef) (a':=?_) #[true,true,true,true,true,true,true,true,true,true,true,true,true,true,true,true,true,true,true,true,true,true,true,true,false] rfl rfl (any_of HT_.out (by kernel_rfl)) (fun _ _ _ h=>h) (Or.inr ⟨by rfl,rfl⟩) ?_ ?_
                   rotate_left
                   ·simp only [Act.put,List.setIfInBounds_toArray,List.set_cons_zero,List.set_cons_succ,i64_w,i32_w]
                    rfl
                   refine pure_ (i:=24) (N:=some 142) (v:=?_) (a':=?_) #[true,true,true,true,true,true,true,true,true,true,true,true,true,true,true,true,true,true,true,true,true,true,true,true,true] rfl rfl (any_of HT_.out (by kernel_rfl)) (fun _ _ _ h=>h) (Or.inl ⟨by rfl,?_⟩) ?_ ?_
                   rotate_left
                   ·intro w'
                    go_simp
                    with_reducible rfl
                   rotate_left
                   ·simp only [Act.put,List.setIfInBounds_toArray,List.set_cons_zero,List.set_cons_succ,i64_w,i32_w]
                    rfl
                   refine done_ (done_of HT_.out (by kernel_rfl)) ?_
                   try go_wp2
                   go_meet
                   case rel=>exact ⟨_,(true),qz9,H',⟨qz65⟩,⟨qz17⟩,⟨qz56⟩,⟨qz55⟩,⟨qz5⟩⟩
                case rest=>
                 clear HC49
                 try clear c1
                 try clear c2
                 try clear p2
                 try clear c5
                 try clear p5
                 try clear q5
                 try clear hx5
                 try clear c19
                 try clear c20
                 try clear c51
                 try clear p51
                 try clear q51
                 try clear hx51
                 try clear c55
                 try clear c55b0
                 try clear c55b1
                 try clear c55b2
                 try clear c58
                 try clear hx513_0
                 try clear hx513_1
                 try clear hx517_0
                 try clear hx517_1
                 try clear p513
                 try clear p517
                 try clear q513
                 try clear q517
                 obtain ⟨kq,x142_48,rfl,HA,HJ48,HO_3,HR499_1,HR507_1,HB⟩:=hcut
                 cases kq with
                 | zero=>exact absurd HA.out (by simp [laws_FnSubFull.j4])
                 | succ kj48=>
                  have H:=HA.out
                  clear HA
                  simp only [laws_FnSubFull.j4] at H
                  by_cases c69:x142_48=true
                  ·subst c69
                   have H1:(some false)=some r:=qz34
                   clear H
                   have H:=H1
                   clear H1
                   obtain rfl:=Option.some.inj H
                   go_wp2
                   go_ret
                   exact ⟨qz7,qz5⟩
                  ·replace c69:=Bool.eq_false_iff.mpr c69
                   subst c69
                   have H1:(laws_FnSubFull.l1 kj48 t470 (wrap64 (x13_4+1)))=some r:=qz21
                   clear H
                   have H:=H1
                   clear H1
                   have H':=Aside0.mk H
                   clear H
                   go_wp2
                   go_roundg kj48
                   case measure=>have:=HJ5.out;have:=HJ20.out;have:=HK3.out;have:=HK4.out;have:=HJ48.out;omega
                   case rel=>exact ⟨(wrap64 (x13_4+1)),qz9,H',⟨by have:=HJ5.out;have:=HJ20.out;have:=HK3.out;have:=HK4.out;have:=HJ48.out;omega⟩,⟨qz17⟩,⟨qz5⟩⟩
               ·rw [if_neg c46] at H
                exact absurd H (by simp)
              ·rw [if_neg c45] at H
               have c45b0:decide (x13_4<(t470.length:Int))=false:=decide_eq_false c45
               clear c45
               obtain rfl:=Option.some.inj H
               go_wp2
               go_ret
               exact ⟨qz7,qz5⟩
     ·replace c19:=Bool.eq_false_iff.mpr c19
      subst c19
      have H1:(if (t476.length:Int)=0 then ((laws_caOk.f).bind fun t485=>(some t485)) else (some false))=some r:=qz21
      clear H
      have H:=H1
      clear H1
      by_cases c70:(t476.length:Int)=0
      ·rw [if_pos c70] at H
       have c70b0:((t476.length:Int) == 0)=true:=beq_iff_eq.mpr c70
       have c70b1:((t476.length:Int) != 0)=false:=bne_eq_false_iff_eq.mpr c70
       clear c70
       replace H:=Option.bind_eq_some_iff.mp H
       obtain ⟨t485,A710,H⟩:=H
       try dsimp only at H
       have A71:=Aside0.mk A710
       clear A710
       obtain rfl:=Option.some.inj H
       obtain ⟨Ao72,co72,eo72⟩:=Kd.R_slice HO_5.out
       subst eo72
       go_wp2_with (first|(go_at_call 22;(with_reducible refine (laws_caOk.calls  t485 _ A71.out).mono ?_);rintro e w73 ⟨rfl,hb⟩;have n0_:=Aside0.mk (Kd.S_below qz17 hb);have n1_:=Aside0.mk (Kd.R_below qz25 hb);have n2_:=Aside0.mk (below_step qz4 hb);clear HO_3 HO_5 HB;have HO_3:=n0_;have HO_5:=n1_;have HB:=n2_;clear n0_ n1_ n2_;(try clear hb);(try clear hb2);(try clear hk);(try clear hi)))
       go_ret
       exact ⟨qz7,qz5⟩
      ·rw [if_neg c70] at H
       have c70b0:((t476.length:Int) == 0)=false:=beq_eq_false_iff_ne.mpr c70
       have c70b1:((t476.length:Int) != 0)=true:=bne_iff_ne.mpr c70
       have c70b2:¬ (t476=[]):=fun h_=>c70 (by rw [h_];rfl)
       obtain rfl:=Option.some.inj H
       obtain ⟨Ao74,co74,eo74⟩:=Kd.R_slice HO_5.out
       subst eo74
       go_wp2
       go_ret
       exact ⟨qz7,qz5⟩

end Go.Proofs.YtlaicnoikeieeaaDoor.P
