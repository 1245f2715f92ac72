/- Contracts of functions of the program: each as a Lean function, and that its call does what that says; printed by cprint.py (this session) over print.py of the kit. Conditions: the hypotheses of each theorem. -/
import Derived.Test.YtlaicnoikeieeaaDoorVZ
import Derived.Test.YtlaicnoikeieeaaDoorP0
import Derived.Test.YtlaicnoikeieeaaDoorP1
import Derived.Test.YtlaicnoikeieeaaDoorP4
import Derived.Test.YtlaicnoikeieeaaDoorP6
import Derived.Test.YtlaicnoikeieeaaDoorP11
import Derived.Test.YtlaicnoikeieeaaDoorP14
import Derived.Test.YtlaicnoikeieeaaDoorP15
import Derived.Test.YtlaicnoikeieeaaDoorP16
import Derived.Test.YtlaicnoikeieeaaDoorP20
namespace Go.Proofs.YtlaicnoikeieeaaDoor.P
open Go.RowKit Go.Proofs.YtlaicnoikeieeaaDoorW.PrintWords Go.Proofs.YtlaicnoikeieeaaDoorW.PrintLast Go.Proofs.YtlaicnoikeieeaaDoorW.PrintMore
attribute [local go_sem] max2_int min2_int max_two min_two max_three min_three max_four min_four   -- for this text's walks alone
set_option linter.unusedVariables false
set_option linter.unusedSimpArgs false

attribute [local go_sem high] eqA46
/-! ### laws_FnSubArgs: function 12 -/
mutual
def laws_FnSubArgs.j0:Nat→List (S30)→List (S46)→List (S46)→Bool→Option (Bool)
 | 0,_,_,_,_=>none
 | k+1,x3,x4,x5,x44=>if x44=true then ((laws_caOk.f).bind fun t481=>(some t481)) else ((impl_SubUnify.f k x3 x4 x5).bind fun bt482=>(if 0<(x5.length:Int) then (if ((rd_T46 x5 0).f0)=3 then (if 0<(x4.length:Int) then (laws_FnSubArgs.j1 k x3 x4 x5 bt482.1 bt482.2 (!(((rd_T46 x5 0).f0) == ((rd_T46 x4 0).f0)) || (!(((rd_T46 x5 0).f1) == ((rd_T46 x4 0).f1)) || (!((((rd_T46 x5 0).f2).toList) == (((rd_T46 x4 0).f2).toList)))))) else (none)) else (laws_FnSubArgs.j1 k x3 x4 x5 bt482.1 bt482.2 false)) else (none)))
def laws_FnSubArgs.j1:Nat→List (S30)→List (S46)→List (S46)→List (S30)→Int→Bool→Option (Bool)
 | 0,_,_,_,_,_,_=>none
 | k+1,x3,x4,x5,x6,x7,x66=>if x66=true then (if x7=2 then (some true) else (some (x7 == 3))) else (if 0<(x5.length:Int) then (if ((rd_T46 x5 0).f0)=3 then (laws_FnSubArgs.j2 k x3 x4 x5 x6 x7 (x7 == 3)) else (laws_FnSubArgs.j2 k x3 x4 x5 x6 x7 true)) else (none))
def laws_FnSubArgs.j2:Nat→List (S30)→List (S46)→List (S46)→List (S30)→Int→Bool→Option (Bool)
 | 0,_,_,_,_,_,_=>none
 | k+1,x3,x4,x5,x6,x7,x81=>if x81=true then ((laws_caOk.f).bind fun t490=>(some t490)) else (laws_FnSubArgs.l0 k x4 x5 x6 x7 x3 0)
def laws_FnSubArgs.l0:Nat→List (S46)→List (S46)→List (S30)→Int→List (S30)→Int→Option (Bool)
 | 0,_,_,_,_,_,_=>none
 | k+1,x4,x5,x6,x7,x8,x9=>if 0<(x4.length:Int) then (if x9<((rd_T46 x4 0).f1) then ((impl_TrmArg.f k x4 x9).bind fun t492=>((impl_TrmArg.f k x5 x9).bind fun t495=>((impl_SubUnify.f k x8 t492 t495).bind fun bt498=>(if bt498.2=3 then (if x7=2 then (some true) else ((laws_caOk.f).bind fun t502=>(some t502))) else (if bt498.2=1 then (laws_FnSubArgs.l0 k x4 x5 x6 x7 bt498.1 (wrap64 (x9+1))) else (some (x7 == 2))))))) else (if x7=1 then ((impl_SubFull.f k x6 x4).bind fun bt503=>((impl_SubFull.f k x8 x4).bind fun bt507=>((impl_TrmCanon.f k bt503.1).bind fun t511=>((impl_TrmCanon.f k bt507.1).bind fun t514=>((laws_caTerm.f k t511 t514).bind fun t517=>(some t517)))))) else (some false))) else (none)
end
def laws_FnSubArgs.f (k:Nat) (l0:List Int):Option (Bool):=if (l0.length:Int) > 1048576 then (some true) else ((spec_DrawSubUnify.f k l0).bind fun bt468=>((spec_SubOk.f k bt468.1).bind fun t477=>(if t477=true then ((spec_TrmOk.f k bt468.2.1).bind fun t478=>(if t478=true then ((spec_TrmOk.f k bt468.2.2).bind fun t479=>(if t479=true then (if 0<(bt468.2.1.length:Int) then (laws_FnSubArgs.j0 k bt468.1 bt468.2.1 bt468.2.2 (((rd_T46 bt468.2.1 0).f0) != 3)) else (none)) else (laws_FnSubArgs.j0 k bt468.1 bt468.2.1 bt468.2.2 true))) else (laws_FnSubArgs.j0 k bt468.1 bt468.2.1 bt468.2.2 true))) else (laws_FnSubArgs.j0 k bt468.1 bt468.2.1 bt468.2.2 true))))
set_option maxHeartbeats 8000000 in
set_option maxRecDepth 100000 in
theorem laws_FnSubArgs.calls (k:Nat) (A0:Option Addr) (c0:Nat) (l0:List Int) (r:Bool) (w:World) (hr0:Kd.C (Kd.int .u8) w A0 l0.length l0) (hc0:l0.length≤c0) (h:laws_FnSubArgs.f k l0=some r) :
  Calls Tryd.prog 12 #[.slice A0 l0.length c0] w fun e w'=>e = .returned (.bool r)∧Below w.heap.size w w':=by
 have hu46:=Tryd.underlying46
 have HR0:=Aside0.mk hr0
 have HC0:=Aside0.mk hc0
 clear hr0 hc0
 have HB:=Aside0.mk (Below.refl w.heap.size w)
 have H:(if (l0.length:Int) > 1048576 then (some true) else ((spec_DrawSubUnify.f k l0).bind fun bt468=>((spec_SubOk.f k bt468.1).bind fun t477=>(if t477=true then ((spec_TrmOk.f k bt468.2.1).bind fun t478=>(if t478=true then ((spec_TrmOk.f k bt468.2.2).bind fun t479=>(if t479=true then (if 0<(bt468.2.1.length:Int) then (laws_FnSubArgs.j0 k bt468.1 bt468.2.1 bt468.2.2 (((rd_T46 bt468.2.1 0).f0) != 3)) else (none)) else (laws_FnSubArgs.j0 k bt468.1 bt468.2.1 bt468.2.2 true))) else (laws_FnSubArgs.j0 k bt468.1 bt468.2.1 bt468.2.2 true))) else (laws_FnSubArgs.j0 k bt468.1 bt468.2.1 bt468.2.2 true)))))=some r:=h
 clear h
 by_cases c2:(l0.length:Int) > 1048576
 ·rw [if_pos c2] at H
  have c2b0:decide (1048576<(l0.length:Int))=true:=decide_eq_true c2
  have c2b1:decide (1048576<l0.length)=true:=decide_eq_true (by omega)
  clear c2
  obtain rfl:=Option.some.inj H
  go_enter Tryd.func12,Tryd.ntmps12
  go_wp2
  repeat (go_quiet (fail);try go_wp2)
  go_ret
  exact ⟨qz8,qz5⟩
 ·rw [if_neg c2] at H
  have c2b0:decide (1048576<(l0.length:Int))=false:=decide_eq_false c2
  have c2b1:decide (1048576<l0.length)=false:=decide_eq_false (by omega)
  clear c2
  replace H:=Option.bind_eq_some_iff.mp H
  obtain ⟨⟨t468,t469,t470⟩,A30,H⟩:=H
  try dsimp only at H
  have A3:=Aside0.mk A30
  clear A30
  have HC4:=Aside0.mk H
  clear H
  go_enter Tryd.func12,Tryd.ntmps12
  go_upto_region 4 with (first|(go_at_call 43;(with_reducible refine (spec_DrawSubUnify.calls k _ _ l0 t468 t469 t470 _ ?side1 ?side2 A3.out).mono ?_);(case side1=>exact qz40);(case side2=>exact HC0.out);rintro e w5 ⟨v471,v473,v475,rfl,ho0,ho1,ho2,hb⟩;have n0_:=Aside0.mk (Kd.S_lower ho0 (below_size qz1));have n1_:=Aside0.mk (Kd.R_lower ho1 (below_size qz1));have n2_:=Aside0.mk (Kd.R_lower ho2 (below_size qz1));have n3_:=Aside0.mk (below_step qz1 hb);clear HB;have HO472:=n0_;have HO474:=n1_;have HO476:=n2_;have HB:=n3_;clear n0_ n1_ n2_ n3_;(try clear hb);(try clear hb2);(try clear hk);(try clear hi);(try clear ho0);(try clear ho1);(try clear ho2)))
  repeat (go_quiet (first|(go_at_call 43;(with_reducible refine (spec_DrawSubUnify.calls k _ _ l0 t468 t469 t470 _ ?side1 ?side2 A3.out).mono ?_);(case side1=>exact qz40);(case side2=>exact HC0.out);rintro e w5 ⟨v471,v473,v475,rfl,ho0,ho1,ho2,hb⟩;have n0_:=Aside0.mk (Kd.S_lower ho0 (below_size qz1));have n1_:=Aside0.mk (Kd.R_lower ho1 (below_size qz1));have n2_:=Aside0.mk (Kd.R_lower ho2 (below_size qz1));have n3_:=Aside0.mk (below_step qz1 hb);clear HB;have HO472:=n0_;have HO474:=n1_;have HO476:=n2_;have HB:=n3_;clear n0_ n1_ n2_ n3_;(try clear hb);(try clear hb2);(try clear hk);(try clear hi);(try clear ho0);(try clear ho1);(try clear ho2)));go_upto_region 4 with (first|(go_at_call 43;(with_reducible refine (spec_DrawSubUnify.calls k _ _ l0 t468 t469 t470 _ ?side1 ?side2 A3.out).mono ?_);(case side1=>exact qz40);(case side2=>exact HC0.out);rintro e w5 ⟨v471,v473,v475,rfl,ho0,ho1,ho2,hb⟩;have n0_:=Aside0.mk (Kd.S_lower ho0 (below_size qz1));have n1_:=Aside0.mk (Kd.R_lower ho1 (below_size qz1));have n2_:=Aside0.mk (Kd.R_lower ho2 (below_size qz1));have n3_:=Aside0.mk (below_step qz1 hb);clear HB;have HO472:=n0_;have HO474:=n1_;have HO476:=n2_;have HB:=n3_;clear n0_ n1_ n2_ n3_;(try clear hb);(try clear hb2);(try clear hk);(try clear hi);(try clear ho0);(try clear ho1);(try clear ho2))))
  (try simp only [Act.put,List.setIfInBounds_toArray,List.set_cons_zero,List.set_cons_succ])
  go_cut [44] (fun v44 wc=>∃ (kq:Nat) (x44_3:Bool),v44 = .bool x44_3∧Aside0 (laws_FnSubArgs.j0 kq t468 t469 t470 x44_3=some r)∧Aside0 (kq≤k)∧Aside0 (Kd.S k30 30 wc w.heap.size (fun _=>True) v471 t468)∧Aside0 (Kd.R k46 46 wc w.heap.size (fun _=>True) v473 t469)∧Aside0 (Kd.R k46 46 wc w.heap.size (fun _=>True) v475 t470)∧Aside0 (Below w.heap.size w wc))
  case first=>
   have H:=HC4.out
   clear HC4
   replace H:=Option.bind_eq_some_iff.mp H
   obtain ⟨t477,A60,H⟩:=H
   try dsimp only at H
   have A6:=Aside0.mk A60
   clear A60
   by_cases c7:t477=true
   ·subst c7
    have H1:((spec_TrmOk.f k t469).bind fun t478=>(if t478=true then ((spec_TrmOk.f k t470).bind fun t479=>(if t479=true then (if 0<(t469.length:Int) then (laws_FnSubArgs.j0 k t468 t469 t470 (((rd_T46 t469 0).f0) != 3)) else (none)) else (laws_FnSubArgs.j0 k t468 t469 t470 true))) else (laws_FnSubArgs.j0 k t468 t469 t470 true)))=some r:=qz47
    clear H
    have H:=H1
    clear H1
    replace H:=Option.bind_eq_some_iff.mp H
    obtain ⟨t478,A80,H⟩:=H
    try dsimp only at H
    have A8:=Aside0.mk A80
    clear A80
    by_cases c9:t478=true
    ·subst c9
     have H1:((spec_TrmOk.f k t470).bind fun t479=>(if t479=true then (if 0<(t469.length:Int) then (laws_FnSubArgs.j0 k t468 t469 t470 (((rd_T46 t469 0).f0) != 3)) else (none)) else (laws_FnSubArgs.j0 k t468 t469 t470 true)))=some r:=qz47
     clear H
     have H:=H1
     clear H1
     replace H:=Option.bind_eq_some_iff.mp H
     obtain ⟨t479,A100,H⟩:=H
     try dsimp only at H
     have A10:=Aside0.mk A100
     clear A100
     by_cases c11:t479=true
     ·subst c11
      have H1:(if 0<(t469.length:Int) then (laws_FnSubArgs.j0 k t468 t469 t470 (((rd_T46 t469 0).f0) != 3)) else (none))=some r:=qz47
      clear H
      have H:=H1
      clear H1
      by_cases c12:0<(t469.length:Int)
      ·rw [if_pos c12] at H
       have c12b0:decide (0<(t469.length:Int))=true:=decide_eq_true c12
       have c12b1:decide (0<t469.length)=true:=decide_eq_true (by omega)
       clear c12
       (first|rw [c12b0]|(simp only [i64_w,i32_w];rw [c12b0])|skip)
       have H':=Aside0.mk H
       clear H
       obtain ⟨Ao13,co13,eo13⟩:=Kd.S_slice HO472.out
       subst eo13
       go_wp2_with (first|(go_at_call 24;(with_reducible refine (spec_SubOk.calls k _ _ t468 true _ ?side1 ?side2 A6.out).mono ?_);(case side1=>exact qz28);(case side2=>exact (Kd.S_reads' HO472.out).2.1);rintro e w14 ⟨rfl,hb⟩;have n0_:=Aside0.mk (Kd.S_below qz15 hb);have n1_:=Aside0.mk (Kd.R_below qz17 hb);have n2_:=Aside0.mk (Kd.R_below qz16 hb);have n3_:=Aside0.mk (below_step qz1 hb);clear HO472 HO474 HO476 HB;have HO472:=n0_;have HO474:=n1_;have HO476:=n2_;have HB:=n3_;clear n0_ n1_ n2_ n3_;(try clear hb);(try clear hb2);(try clear hk);(try clear hi);obtain ⟨Ao15,co15,eo15⟩:=Kd.R_slice HO474.out;subst eo15)|(go_at_call 30;(with_reducible refine (spec_TrmOk.calls k _ _ t469 true _ ?side1 ?side2 A8.out).mono ?_);(case side1=>exact qz36);(case side2=>exact (Kd.R_reads' HO474.out).2.1);rintro e w16 ⟨rfl,hb⟩;have n0_:=Aside0.mk (Kd.S_below qz15 hb);have n1_:=Aside0.mk (Kd.R_below qz17 hb);have n2_:=Aside0.mk (Kd.R_below qz16 hb);have n3_:=Aside0.mk (below_step qz1 hb);clear HO472 HO474 HO476 HB;have HO472:=n0_;have HO474:=n1_;have HO476:=n2_;have HB:=n3_;clear n0_ n1_ n2_ n3_;(try clear hb);(try clear hb2);(try clear hk);(try clear hi);obtain ⟨Ao17,co17,eo17⟩:=Kd.R_slice HO476.out;subst eo17)|(go_at_call 30;(with_reducible refine (spec_TrmOk.calls k _ _ t470 true _ ?side1 ?side2 A10.out).mono ?_);(case side1=>exact qz46);(case side2=>exact (Kd.R_reads' HO476.out).2.1);rintro e w18 ⟨rfl,hb⟩;have n0_:=Aside0.mk (Kd.S_below qz15 hb);have n1_:=Aside0.mk (Kd.R_below qz17 hb);have n2_:=Aside0.mk (Kd.R_below qz16 hb);have n3_:=Aside0.mk (below_step qz1 hb);clear HO472 HO474 HO476 HB;have HO472:=n0_;have HO474:=n1_;have HO476:=n2_;have HB:=n3_;clear n0_ n1_ n2_ n3_;(try clear hb);(try clear hb2);(try clear hk);(try clear hi);have p480:0≤(0:Int):=(by omega);have q480:0<(t469.length:Int):=of_decide_eq_true qz6;obtain ⟨ad480,e480,hx480_0,hx480_1,hx480_2⟩:=at_T46 (Kd.R_reads' HO474.out).2.2 0 p480 q480;cases e480;have qi480:(0<t469.length)=True:=eq_true (by omega);(try rw [show ((0:Int)).toNat=0 from rfl] at hx480_0);(try rw [show 0 * 3=0 from rfl] at hx480_0);(try rw [Addr.add_zero'] at hx480_0);(try rw [show ((0:Int)).toNat=0 from rfl] at hx480_1);(try rw [show 0 * 3=0 from rfl] at hx480_1);(try rw [Addr.add_zero'] at hx480_1);(try rw [show ((0:Int)).toNat=0 from rfl] at hx480_2);(try rw [show 0 * 3=0 from rfl] at hx480_2);(try rw [Addr.add_zero'] at hx480_2);replace p480:=eq_true p480;replace q480:=eq_true q480))
       repeat (go_quiet (first|(go_at_call 24;(with_reducible refine (spec_SubOk.calls k _ _ t468 true _ ?side1 ?side2 A6.out).mono ?_);(case side1=>exact qz28);(case side2=>exact (Kd.S_reads' HO472.out).2.1);rintro e w14 ⟨rfl,hb⟩;have n0_:=Aside0.mk (Kd.S_below qz15 hb);have n1_:=Aside0.mk (Kd.R_below qz17 hb);have n2_:=Aside0.mk (Kd.R_below qz16 hb);have n3_:=Aside0.mk (below_step qz1 hb);clear HO472 HO474 HO476 HB;have HO472:=n0_;have HO474:=n1_;have HO476:=n2_;have HB:=n3_;clear n0_ n1_ n2_ n3_;(try clear hb);(try clear hb2);(try clear hk);(try clear hi);obtain ⟨Ao15,co15,eo15⟩:=Kd.R_slice HO474.out;subst eo15)|(go_at_call 30;(with_reducible refine (spec_TrmOk.calls k _ _ t469 true _ ?side1 ?side2 A8.out).mono ?_);(case side1=>exact qz36);(case side2=>exact (Kd.R_reads' HO474.out).2.1);rintro e w16 ⟨rfl,hb⟩;have n0_:=Aside0.mk (Kd.S_below qz15 hb);have n1_:=Aside0.mk (Kd.R_below qz17 hb);have n2_:=Aside0.mk (Kd.R_below qz16 hb);have n3_:=Aside0.mk (below_step qz1 hb);clear HO472 HO474 HO476 HB;have HO472:=n0_;have HO474:=n1_;have HO476:=n2_;have HB:=n3_;clear n0_ n1_ n2_ n3_;(try clear hb);(try clear hb2);(try clear hk);(try clear hi);obtain ⟨Ao17,co17,eo17⟩:=Kd.R_slice HO476.out;subst eo17)|(go_at_call 30;(with_reducible refine (spec_TrmOk.calls k _ _ t470 true _ ?side1 ?side2 A10.out).mono ?_);(case side1=>exact qz46);(case side2=>exact (Kd.R_reads' HO476.out).2.1);rintro e w18 ⟨rfl,hb⟩;have n0_:=Aside0.mk (Kd.S_below qz15 hb);have n1_:=Aside0.mk (Kd.R_below qz17 hb);have n2_:=Aside0.mk (Kd.R_below qz16 hb);have n3_:=Aside0.mk (below_step qz1 hb);clear HO472 HO474 HO476 HB;have HO472:=n0_;have HO474:=n1_;have HO476:=n2_;have HB:=n3_;clear n0_ n1_ n2_ n3_;(try clear hb);(try clear hb2);(try clear hk);(try clear hi);have p480:0≤(0:Int):=(by omega);have q480:0<(t469.length:Int):=of_decide_eq_true qz6;obtain ⟨ad480,e480,hx480_0,hx480_1,hx480_2⟩:=at_T46 (Kd.R_reads' HO474.out).2.2 0 p480 q480;cases e480;have qi480:(0<t469.length)=True:=eq_true (by omega);(try rw [show ((0:Int)).toNat=0 from rfl] at hx480_0);(try rw [show 0 * 3=0 from rfl] at hx480_0);(try rw [Addr.add_zero'] at hx480_0);(try rw [show ((0:Int)).toNat=0 from rfl] at hx480_1);(try rw [show 0 * 3=0 from rfl] at hx480_1);(try rw [Addr.add_zero'] at hx480_1);(try rw [show ((0:Int)).toNat=0 from rfl] at hx480_2);(try rw [show 0 * 3=0 from rfl] at hx480_2);(try rw [Addr.add_zero'] at hx480_2);replace p480:=eq_true p480;replace q480:=eq_true q480));try go_wp2_with (first|(go_at_call 24;(with_reducible refine (spec_SubOk.calls k _ _ t468 true _ ?side1 ?side2 A6.out).mono ?_);(case side1=>exact qz28);(case side2=>exact (Kd.S_reads' HO472.out).2.1);rintro e w14 ⟨rfl,hb⟩;have n0_:=Aside0.mk (Kd.S_below qz15 hb);have n1_:=Aside0.mk (Kd.R_below qz17 hb);have n2_:=Aside0.mk (Kd.R_below qz16 hb);have n3_:=Aside0.mk (below_step qz1 hb);clear HO472 HO474 HO476 HB;have HO472:=n0_;have HO474:=n1_;have HO476:=n2_;have HB:=n3_;clear n0_ n1_ n2_ n3_;(try clear hb);(try clear hb2);(try clear hk);(try clear hi);obtain ⟨Ao15,co15,eo15⟩:=Kd.R_slice HO474.out;subst eo15)|(go_at_call 30;(with_reducible refine (spec_TrmOk.calls k _ _ t469 true _ ?side1 ?side2 A8.out).mono ?_);(case side1=>exact qz36);(case side2=>exact (Kd.R_reads' HO474.out).2.1);rintro e w16 ⟨rfl,hb⟩;have n0_:=Aside0.mk (Kd.S_below qz15 hb);have n1_:=Aside0.mk (Kd.R_below qz17 hb);have n2_:=Aside0.mk (Kd.R_below qz16 hb);have n3_:=Aside0.mk (below_step qz1 hb);clear HO472 HO474 HO476 HB;have HO472:=n0_;have HO474:=n1_;have HO476:=n2_;have HB:=n3_;clear n0_ n1_ n2_ n3_;(try clear hb);(try clear hb2);(try clear hk);(try clear hi);obtain ⟨Ao17,co17,eo17⟩:=Kd.R_slice HO476.out;subst eo17)|(go_at_call 30;(with_reducible refine (spec_TrmOk.calls k _ _ t470 true _ ?side1 ?side2 A10.out).mono ?_);(case side1=>exact qz46);(case side2=>exact (Kd.R_reads' HO476.out).2.1);rintro e w18 ⟨rfl,hb⟩;have n0_:=Aside0.mk (Kd.S_below qz15 hb);have n1_:=Aside0.mk (Kd.R_below qz17 hb);have n2_:=Aside0.mk (Kd.R_below qz16 hb);have n3_:=Aside0.mk (below_step qz1 hb);clear HO472 HO474 HO476 HB;have HO472:=n0_;have HO474:=n1_;have HO476:=n2_;have HB:=n3_;clear n0_ n1_ n2_ n3_;(try clear hb);(try clear hb2);(try clear hk);(try clear hi);have p480:0≤(0:Int):=(by omega);have q480:0<(t469.length:Int):=of_decide_eq_true qz6;obtain ⟨ad480,e480,hx480_0,hx480_1,hx480_2⟩:=at_T46 (Kd.R_reads' HO474.out).2.2 0 p480 q480;cases e480;have qi480:(0<t469.length)=True:=eq_true (by omega);(try rw [show ((0:Int)).toNat=0 from rfl] at hx480_0);(try rw [show 0 * 3=0 from rfl] at hx480_0);(try rw [Addr.add_zero'] at hx480_0);(try rw [show ((0:Int)).toNat=0 from rfl] at hx480_1);(try rw [show 0 * 3=0 from rfl] at hx480_1);(try rw [Addr.add_zero'] at hx480_1);(try rw [show ((0:Int)).toNat=0 from rfl] at hx480_2);(try rw [show 0 * 3=0 from rfl] at hx480_2);(try rw [Addr.add_zero'] at hx480_2);replace p480:=eq_true p480;replace q480:=eq_true q480)))
       go_meet
       case rel=>exact ⟨_,((((rd_T46 t469 0).f0) != 3)),qz12,H',⟨qz55⟩,⟨qz15⟩,⟨qz17⟩,⟨qz16⟩,⟨qz5⟩⟩
      ·rw [if_neg c12] at H
       exact absurd H (by simp)
     ·replace c11:=Bool.eq_false_iff.mpr c11
      subst c11
      have H1:(laws_FnSubArgs.j0 k t468 t469 t470 true)=some r:=qz31
      clear H
      have H:=H1
      clear H1
      have H':=Aside0.mk H
      clear H
      obtain ⟨Ao19,co19,eo19⟩:=Kd.S_slice HO472.out
      subst eo19
      go_wp2_with (first|(go_at_call 24;(with_reducible refine (spec_SubOk.calls k _ _ t468 true _ ?side1 ?side2 A6.out).mono ?_);(case side1=>exact qz28);(case side2=>exact (Kd.S_reads' HO472.out).2.1);rintro e w20 ⟨rfl,hb⟩;have n0_:=Aside0.mk (Kd.S_below qz15 hb);have n1_:=Aside0.mk (Kd.R_below qz17 hb);have n2_:=Aside0.mk (Kd.R_below qz16 hb);have n3_:=Aside0.mk (below_step qz1 hb);clear HO472 HO474 HO476 HB;have HO472:=n0_;have HO474:=n1_;have HO476:=n2_;have HB:=n3_;clear n0_ n1_ n2_ n3_;(try clear hb);(try clear hb2);(try clear hk);(try clear hi);obtain ⟨Ao21,co21,eo21⟩:=Kd.R_slice HO474.out;subst eo21)|(go_at_call 30;(with_reducible refine (spec_TrmOk.calls k _ _ t469 true _ ?side1 ?side2 A8.out).mono ?_);(case side1=>exact qz36);(case side2=>exact (Kd.R_reads' HO474.out).2.1);rintro e w22 ⟨rfl,hb⟩;have n0_:=Aside0.mk (Kd.S_below qz15 hb);have n1_:=Aside0.mk (Kd.R_below qz17 hb);have n2_:=Aside0.mk (Kd.R_below qz16 hb);have n3_:=Aside0.mk (below_step qz1 hb);clear HO472 HO474 HO476 HB;have HO472:=n0_;have HO474:=n1_;have HO476:=n2_;have HB:=n3_;clear n0_ n1_ n2_ n3_;(try clear hb);(try clear hb2);(try clear hk);(try clear hi);obtain ⟨Ao23,co23,eo23⟩:=Kd.R_slice HO476.out;subst eo23)|(go_at_call 30;(with_reducible refine (spec_TrmOk.calls k _ _ t470 false _ ?side1 ?side2 A10.out).mono ?_);(case side1=>exact qz46);(case side2=>exact (Kd.R_reads' HO476.out).2.1);rintro e w24 ⟨rfl,hb⟩;have n0_:=Aside0.mk (Kd.S_below qz15 hb);have n1_:=Aside0.mk (Kd.R_below qz17 hb);have n2_:=Aside0.mk (Kd.R_below qz16 hb);have n3_:=Aside0.mk (below_step qz1 hb);clear HO472 HO474 HO476 HB;have HO472:=n0_;have HO474:=n1_;have HO476:=n2_;have HB:=n3_;clear n0_ n1_ n2_ n3_;(try clear hb);(try clear hb2);(try clear hk);(try clear hi)))
      repeat (go_quiet (first|(go_at_call 24;(with_reducible refine (spec_SubOk.calls k _ _ t468 true _ ?side1 ?side2 A6.out).mono ?_);(case side1=>exact qz28);(case side2=>exact (Kd.S_reads' HO472.out).2.1);rintro e w20 ⟨rfl,hb⟩;have n0_:=Aside0.mk (Kd.S_below qz15 hb);have n1_:=Aside0.mk (Kd.R_below qz17 hb);have n2_:=Aside0.mk (Kd.R_below qz16 hb);have n3_:=Aside0.mk (below_step qz1 hb);clear HO472 HO474 HO476 HB;have HO472:=n0_;have HO474:=n1_;have HO476:=n2_;have HB:=n3_;clear n0_ n1_ n2_ n3_;(try clear hb);(try clear hb2);(try clear hk);(try clear hi);obtain ⟨Ao21,co21,eo21⟩:=Kd.R_slice HO474.out;subst eo21)|(go_at_call 30;(with_reducible refine (spec_TrmOk.calls k _ _ t469 true _ ?side1 ?side2 A8.out).mono ?_);(case side1=>exact qz36);(case side2=>exact (Kd.R_reads' HO474.out).2.1);rintro e w22 ⟨rfl,hb⟩;have n0_:=Aside0.mk (Kd.S_below qz15 hb);have n1_:=Aside0.mk (Kd.R_below qz17 hb);have n2_:=Aside0.mk (Kd.R_below qz16 hb);have n3_:=Aside0.mk (below_step qz1 hb);clear HO472 HO474 HO476 HB;have HO472:=n0_;have HO474:=n1_;have HO476:=n2_;have HB:=n3_;clear n0_ n1_ n2_ n3_;(try clear hb);(try clear hb2);(try clear hk);(try clear hi);obtain ⟨Ao23,co23,eo23⟩:=Kd.R_slice HO476.out;subst eo23)|(go_at_call 30;(with_reducible refine (spec_TrmOk.calls k _ _ t470 false _ ?side1 ?side2 A10.out).mono ?_);(case side1=>exact qz46);(case side2=>exact (Kd.R_reads' HO476.out).2.1);rintro e w24 ⟨rfl,hb⟩;have n0_:=Aside0.mk (Kd.S_below qz15 hb);have n1_:=Aside0.mk (Kd.R_below qz17 hb);have n2_:=Aside0.mk (Kd.R_below qz16 hb);have n3_:=Aside0.mk (below_step qz1 hb);clear HO472 HO474 HO476 HB;have HO472:=n0_;have HO474:=n1_;have HO476:=n2_;have HB:=n3_;clear n0_ n1_ n2_ n3_;(try clear hb);(try clear hb2);(try clear hk);(try clear hi)));try go_wp2_with (first|(go_at_call 24;(with_reducible refine (spec_SubOk.calls k _ _ t468 true _ ?side1 ?side2 A6.out).mono ?_);(case side1=>exact qz28);(case side2=>exact (Kd.S_reads' HO472.out).2.1);rintro e w20 ⟨rfl,hb⟩;have n0_:=Aside0.mk (Kd.S_below qz15 hb);have n1_:=Aside0.mk (Kd.R_below qz17 hb);have n2_:=Aside0.mk (Kd.R_below qz16 hb);have n3_:=Aside0.mk (below_step qz1 hb);clear HO472 HO474 HO476 HB;have HO472:=n0_;have HO474:=n1_;have HO476:=n2_;have HB:=n3_;clear n0_ n1_ n2_ n3_;(try clear hb);(try clear hb2);(try clear hk);(try clear hi);obtain ⟨Ao21,co21,eo21⟩:=Kd.R_slice HO474.out;subst eo21)|(go_at_call 30;(with_reducible refine (spec_TrmOk.calls k _ _ t469 true _ ?side1 ?side2 A8.out).mono ?_);(case side1=>exact qz36);(case side2=>exact (Kd.R_reads' HO474.out).2.1);rintro e w22 ⟨rfl,hb⟩;have n0_:=Aside0.mk (Kd.S_below qz15 hb);have n1_:=Aside0.mk (Kd.R_below qz17 hb);have n2_:=Aside0.mk (Kd.R_below qz16 hb);have n3_:=Aside0.mk (below_step qz1 hb);clear HO472 HO474 HO476 HB;have HO472:=n0_;have HO474:=n1_;have HO476:=n2_;have HB:=n3_;clear n0_ n1_ n2_ n3_;(try clear hb);(try clear hb2);(try clear hk);(try clear hi);obtain ⟨Ao23,co23,eo23⟩:=Kd.R_slice HO476.out;subst eo23)|(go_at_call 30;(with_reducible refine (spec_TrmOk.calls k _ _ t470 false _ ?side1 ?side2 A10.out).mono ?_);(case side1=>exact qz46);(case side2=>exact (Kd.R_reads' HO476.out).2.1);rintro e w24 ⟨rfl,hb⟩;have n0_:=Aside0.mk (Kd.S_below qz15 hb);have n1_:=Aside0.mk (Kd.R_below qz17 hb);have n2_:=Aside0.mk (Kd.R_below qz16 hb);have n3_:=Aside0.mk (below_step qz1 hb);clear HO472 HO474 HO476 HB;have HO472:=n0_;have HO474:=n1_;have HO476:=n2_;have HB:=n3_;clear n0_ n1_ n2_ n3_;(try clear hb);(try clear hb2);(try clear hk);(try clear hi))))
      go_meet
      case rel=>exact ⟨_,(true),qz12,H',⟨qz55⟩,⟨qz15⟩,⟨qz17⟩,⟨qz16⟩,⟨qz5⟩⟩
    ·replace c9:=Bool.eq_false_iff.mpr c9
     subst c9
     have H1:(laws_FnSubArgs.j0 k t468 t469 t470 true)=some r:=qz31
     clear H
     have H:=H1
     clear H1
     have H':=Aside0.mk H
     clear H
     obtain ⟨Ao25,co25,eo25⟩:=Kd.S_slice HO472.out
     subst eo25
     go_wp2_with (first|(go_at_call 24;(with_reducible refine (spec_SubOk.calls k _ _ t468 true _ ?side1 ?side2 A6.out).mono ?_);(case side1=>exact qz28);(case side2=>exact (Kd.S_reads' HO472.out).2.1);rintro e w26 ⟨rfl,hb⟩;have n0_:=Aside0.mk (Kd.S_below qz15 hb);have n1_:=Aside0.mk (Kd.R_below qz17 hb);have n2_:=Aside0.mk (Kd.R_below qz16 hb);have n3_:=Aside0.mk (below_step qz1 hb);clear HO472 HO474 HO476 HB;have HO472:=n0_;have HO474:=n1_;have HO476:=n2_;have HB:=n3_;clear n0_ n1_ n2_ n3_;(try clear hb);(try clear hb2);(try clear hk);(try clear hi);obtain ⟨Ao27,co27,eo27⟩:=Kd.R_slice HO474.out;subst eo27)|(go_at_call 30;(with_reducible refine (spec_TrmOk.calls k _ _ t469 false _ ?side1 ?side2 A8.out).mono ?_);(case side1=>exact qz36);(case side2=>exact (Kd.R_reads' HO474.out).2.1);rintro e w28 ⟨rfl,hb⟩;have n0_:=Aside0.mk (Kd.S_below qz15 hb);have n1_:=Aside0.mk (Kd.R_below qz17 hb);have n2_:=Aside0.mk (Kd.R_below qz16 hb);have n3_:=Aside0.mk (below_step qz1 hb);clear HO472 HO474 HO476 HB;have HO472:=n0_;have HO474:=n1_;have HO476:=n2_;have HB:=n3_;clear n0_ n1_ n2_ n3_;(try clear hb);(try clear hb2);(try clear hk);(try clear hi)))
     repeat (go_quiet (first|(go_at_call 24;(with_reducible refine (spec_SubOk.calls k _ _ t468 true _ ?side1 ?side2 A6.out).mono ?_);(case side1=>exact qz28);(case side2=>exact (Kd.S_reads' HO472.out).2.1);rintro e w26 ⟨rfl,hb⟩;have n0_:=Aside0.mk (Kd.S_below qz15 hb);have n1_:=Aside0.mk (Kd.R_below qz17 hb);have n2_:=Aside0.mk (Kd.R_below qz16 hb);have n3_:=Aside0.mk (below_step qz1 hb);clear HO472 HO474 HO476 HB;have HO472:=n0_;have HO474:=n1_;have HO476:=n2_;have HB:=n3_;clear n0_ n1_ n2_ n3_;(try clear hb);(try clear hb2);(try clear hk);(try clear hi);obtain ⟨Ao27,co27,eo27⟩:=Kd.R_slice HO474.out;subst eo27)|(go_at_call 30;(with_reducible refine (spec_TrmOk.calls k _ _ t469 false _ ?side1 ?side2 A8.out).mono ?_);(case side1=>exact qz36);(case side2=>exact (Kd.R_reads' HO474.out).2.1);rintro e w28 ⟨rfl,hb⟩;have n0_:=Aside0.mk (Kd.S_below qz15 hb);have n1_:=Aside0.mk (Kd.R_below qz17 hb);have n2_:=Aside0.mk (Kd.R_below qz16 hb);have n3_:=Aside0.mk (below_step qz1 hb);clear HO472 HO474 HO476 HB;have HO472:=n0_;have HO474:=n1_;have HO476:=n2_;have HB:=n3_;clear n0_ n1_ n2_ n3_;(try clear hb);(try clear hb2);(try clear hk);(try clear hi)));try go_wp2_with (first|(go_at_call 24;(with_reducible refine (spec_SubOk.calls k _ _ t468 true _ ?side1 ?side2 A6.out).mono ?_);(case side1=>exact qz28);(case side2=>exact (Kd.S_reads' HO472.out).2.1);rintro e w26 ⟨rfl,hb⟩;have n0_:=Aside0.mk (Kd.S_below qz15 hb);have n1_:=Aside0.mk (Kd.R_below qz17 hb);have n2_:=Aside0.mk (Kd.R_below qz16 hb);have n3_:=Aside0.mk (below_step qz1 hb);clear HO472 HO474 HO476 HB;have HO472:=n0_;have HO474:=n1_;have HO476:=n2_;have HB:=n3_;clear n0_ n1_ n2_ n3_;(try clear hb);(try clear hb2);(try clear hk);(try clear hi);obtain ⟨Ao27,co27,eo27⟩:=Kd.R_slice HO474.out;subst eo27)|(go_at_call 30;(with_reducible refine (spec_TrmOk.calls k _ _ t469 false _ ?side1 ?side2 A8.out).mono ?_);(case side1=>exact qz36);(case side2=>exact (Kd.R_reads' HO474.out).2.1);rintro e w28 ⟨rfl,hb⟩;have n0_:=Aside0.mk (Kd.S_below qz15 hb);have n1_:=Aside0.mk (Kd.R_below qz17 hb);have n2_:=Aside0.mk (Kd.R_below qz16 hb);have n3_:=Aside0.mk (below_step qz1 hb);clear HO472 HO474 HO476 HB;have HO472:=n0_;have HO474:=n1_;have HO476:=n2_;have HB:=n3_;clear n0_ n1_ n2_ n3_;(try clear hb);(try clear hb2);(try clear hk);(try clear hi))))
     go_meet
     case rel=>exact ⟨_,(true),qz12,H',⟨qz55⟩,⟨qz15⟩,⟨qz17⟩,⟨qz16⟩,⟨qz5⟩⟩
   ·replace c7:=Bool.eq_false_iff.mpr c7
    subst c7
    have H1:(laws_FnSubArgs.j0 k t468 t469 t470 true)=some r:=qz31
    clear H
    have H:=H1
    clear H1
    have H':=Aside0.mk H
    clear H
    obtain ⟨Ao29,co29,eo29⟩:=Kd.S_slice HO472.out
    subst eo29
    go_wp2_with (first|(go_at_call 24;(with_reducible refine (spec_SubOk.calls k _ _ t468 false _ ?side1 ?side2 A6.out).mono ?_);(case side1=>exact qz28);(case side2=>exact (Kd.S_reads' HO472.out).2.1);rintro e w30 ⟨rfl,hb⟩;have n0_:=Aside0.mk (Kd.S_below qz15 hb);have n1_:=Aside0.mk (Kd.R_below qz17 hb);have n2_:=Aside0.mk (Kd.R_below qz16 hb);have n3_:=Aside0.mk (below_step qz1 hb);clear HO472 HO474 HO476 HB;have HO472:=n0_;have HO474:=n1_;have HO476:=n2_;have HB:=n3_;clear n0_ n1_ n2_ n3_;(try clear hb);(try clear hb2);(try clear hk);(try clear hi)))
    repeat (go_quiet (first|(go_at_call 24;(with_reducible refine (spec_SubOk.calls k _ _ t468 false _ ?side1 ?side2 A6.out).mono ?_);(case side1=>exact qz28);(case side2=>exact (Kd.S_reads' HO472.out).2.1);rintro e w30 ⟨rfl,hb⟩;have n0_:=Aside0.mk (Kd.S_below qz15 hb);have n1_:=Aside0.mk (Kd.R_below qz17 hb);have n2_:=Aside0.mk (Kd.R_below qz16 hb);have n3_:=Aside0.mk (below_step qz1 hb);clear HO472 HO474 HO476 HB;have HO472:=n0_;have HO474:=n1_;have HO476:=n2_;have HB:=n3_;clear n0_ n1_ n2_ n3_;(try clear hb);(try clear hb2);(try clear hk);(try clear hi)));try go_wp2_with (first|(go_at_call 24;(with_reducible refine (spec_SubOk.calls k _ _ t468 false _ ?side1 ?side2 A6.out).mono ?_);(case side1=>exact qz28);(case side2=>exact (Kd.S_reads' HO472.out).2.1);rintro e w30 ⟨rfl,hb⟩;have n0_:=Aside0.mk (Kd.S_below qz15 hb);have n1_:=Aside0.mk (Kd.R_below qz17 hb);have n2_:=Aside0.mk (Kd.R_below qz16 hb);have n3_:=Aside0.mk (below_step qz1 hb);clear HO472 HO474 HO476 HB;have HO472:=n0_;have HO474:=n1_;have HO476:=n2_;have HB:=n3_;clear n0_ n1_ n2_ n3_;(try clear hb);(try clear hb2);(try clear hk);(try clear hi))))
    go_meet
    case rel=>exact ⟨_,(true),qz12,H',⟨qz55⟩,⟨qz15⟩,⟨qz17⟩,⟨qz16⟩,⟨qz5⟩⟩
  case rest=>
   clear HC4
   try clear c1
   try clear c2
   try clear c2b0
   try clear c2b1
   try clear p2
   try clear p4
   try clear q4
   try clear hx4
   try clear qi4
   try clear c7
   try clear c9
   try clear c11
   try clear c12
   try clear c12b0
   try clear c12b1
   try clear hx480_0
   try clear hx480_1
   try clear hx480_2
   try clear p480
   try clear q480
   obtain ⟨kq,x44_3,rfl,HA,HJ3,HO_3,HO_4,HO_5,HB⟩:=hcut
   cases kq with
   | zero=>exact absurd HA.out (by simp [laws_FnSubArgs.j0])
   | succ kj3=>
    have H:=HA.out
    clear HA
    simp only [laws_FnSubArgs.j0] at H
    by_cases c31:x44_3=true
    ·subst c31
     have H1:((laws_caOk.f).bind fun t481=>(some t481))=some r:=qz47
     clear H
     have H:=H1
     clear H1
     replace H:=Option.bind_eq_some_iff.mp H
     obtain ⟨t481,A320,H⟩:=H
     try dsimp only at H
     have A32:=Aside0.mk A320
     clear A320
     obtain rfl:=Option.some.inj H
     go_wp2_with (first|(go_at_call 22;(with_reducible refine (laws_caOk.calls  t481 _ A32.out).mono ?_);rintro e w33 ⟨rfl,hb⟩;have n0_:=Aside0.mk (Kd.S_below qz27 hb);have n1_:=Aside0.mk (Kd.R_below qz9 hb);have n2_:=Aside0.mk (Kd.R_below qz7 hb);have n3_:=Aside0.mk (below_step qz1 hb);clear HO_3 HO_4 HO_5 HB;have HO_3:=n0_;have HO_4:=n1_;have HO_5:=n2_;have HB:=n3_;clear n0_ n1_ n2_ n3_;(try clear hb);(try clear hb2);(try clear hk);(try clear hi)))
     repeat (go_quiet (first|(go_at_call 22;(with_reducible refine (laws_caOk.calls  t481 _ A32.out).mono ?_);rintro e w33 ⟨rfl,hb⟩;have n0_:=Aside0.mk (Kd.S_below qz27 hb);have n1_:=Aside0.mk (Kd.R_below qz9 hb);have n2_:=Aside0.mk (Kd.R_below qz7 hb);have n3_:=Aside0.mk (below_step qz1 hb);clear HO_3 HO_4 HO_5 HB;have HO_3:=n0_;have HO_4:=n1_;have HO_5:=n2_;have HB:=n3_;clear n0_ n1_ n2_ n3_;(try clear hb);(try clear hb2);(try clear hk);(try clear hi)));try go_wp2_with (first|(go_at_call 22;(with_reducible refine (laws_caOk.calls  t481 _ A32.out).mono ?_);rintro e w33 ⟨rfl,hb⟩;have n0_:=Aside0.mk (Kd.S_below qz27 hb);have n1_:=Aside0.mk (Kd.R_below qz9 hb);have n2_:=Aside0.mk (Kd.R_below qz7 hb);have n3_:=Aside0.mk (below_step qz1 hb);clear HO_3 HO_4 HO_5 HB;have HO_3:=n0_;have HO_4:=n1_;have HO_5:=n2_;have HB:=n3_;clear n0_ n1_ n2_ n3_;(try clear hb);(try clear hb2);(try clear hk);(try clear hi))))
     go_ret
     exact ⟨qz8,qz5⟩
    ·replace c31:=Bool.eq_false_iff.mpr c31
     subst c31
     have H1:((impl_SubUnify.f kj3 t468 t469 t470).bind fun bt482=>(if 0<(t470.length:Int) then (if ((rd_T46 t470 0).f0)=3 then (if 0<(t469.length:Int) then (laws_FnSubArgs.j1 kj3 t468 t469 t470 bt482.1 bt482.2 (!(((rd_T46 t470 0).f0) == ((rd_T46 t469 0).f0)) || (!(((rd_T46 t470 0).f1) == ((rd_T46 t469 0).f1)) || (!((((rd_T46 t470 0).f2).toList) == (((rd_T46 t469 0).f2).toList)))))) else (none)) else (laws_FnSubArgs.j1 kj3 t468 t469 t470 bt482.1 bt482.2 false)) else (none)))=some r:=qz31
     clear H
     have H:=H1
     clear H1
     replace H:=Option.bind_eq_some_iff.mp H
     obtain ⟨⟨t482,t483⟩,A340,H⟩:=H
     try dsimp only at H
     have A34:=Aside0.mk A340
     clear A340
     have HC35:=Aside0.mk H
     clear H
     obtain ⟨Ao36,co36,eo36⟩:=Kd.S_slice HO_3.out
     subst eo36
     obtain ⟨Ao37,co37,eo37⟩:=Kd.R_slice HO_4.out
     subst eo37
     obtain ⟨Ao38,co38,eo38⟩:=Kd.R_slice HO_5.out
     subst eo38
     go_upto_region 7 with (first|(go_at_call 31;(with_reducible refine (impl_SubUnify.calls kj3 _ _ t468 _ _ t469 _ _ t470 t482 t483 _ ?side1 ?side2 ?side3 ?side4 ?side5 ?side6 A34.out).mono ?_);(case side1=>exact qz69);(case side2=>exact (Kd.S_reads' HO_3.out).2.1);(case side3=>exact qz13);(case side4=>exact (Kd.R_reads' HO_4.out).2.1);(case side5=>exact qz19);(case side6=>exact (Kd.R_reads' HO_5.out).2.1);rintro e w39 ⟨v484,rfl,ho0,hb⟩;have n0_:=Aside0.mk (Kd.S_below qz27 hb);have n1_:=Aside0.mk (Kd.R_below qz9 hb);have n2_:=Aside0.mk (Kd.R_below qz7 hb);have n3_:=Aside0.mk (Kd.S_lower ho0 (below_size qz1));have n4_:=Aside0.mk (below_step qz1 hb);clear HO_3 HO_4 HO_5 HB;have HO_3:=n0_;have HO_4:=n1_;have HO_5:=n2_;have HO485:=n3_;have HB:=n4_;clear n0_ n1_ n2_ n3_ n4_;(try clear hb);(try clear hb2);(try clear hk);(try clear hi);(try clear ho0)))
     repeat (go_quiet (first|(go_at_call 31;(with_reducible refine (impl_SubUnify.calls kj3 _ _ t468 _ _ t469 _ _ t470 t482 t483 _ ?side1 ?side2 ?side3 ?side4 ?side5 ?side6 A34.out).mono ?_);(case side1=>exact qz69);(case side2=>exact (Kd.S_reads' HO_3.out).2.1);(case side3=>exact qz13);(case side4=>exact (Kd.R_reads' HO_4.out).2.1);(case side5=>exact qz19);(case side6=>exact (Kd.R_reads' HO_5.out).2.1);rintro e w39 ⟨v484,rfl,ho0,hb⟩;have n0_:=Aside0.mk (Kd.S_below qz27 hb);have n1_:=Aside0.mk (Kd.R_below qz9 hb);have n2_:=Aside0.mk (Kd.R_below qz7 hb);have n3_:=Aside0.mk (Kd.S_lower ho0 (below_size qz1));have n4_:=Aside0.mk (below_step qz1 hb);clear HO_3 HO_4 HO_5 HB;have HO_3:=n0_;have HO_4:=n1_;have HO_5:=n2_;have HO485:=n3_;have HB:=n4_;clear n0_ n1_ n2_ n3_ n4_;(try clear hb);(try clear hb2);(try clear hk);(try clear hi);(try clear ho0)));go_upto_region 7 with (first|(go_at_call 31;(with_reducible refine (impl_SubUnify.calls kj3 _ _ t468 _ _ t469 _ _ t470 t482 t483 _ ?side1 ?side2 ?side3 ?side4 ?side5 ?side6 A34.out).mono ?_);(case side1=>exact qz69);(case side2=>exact (Kd.S_reads' HO_3.out).2.1);(case side3=>exact qz13);(case side4=>exact (Kd.R_reads' HO_4.out).2.1);(case side5=>exact qz19);(case side6=>exact (Kd.R_reads' HO_5.out).2.1);rintro e w39 ⟨v484,rfl,ho0,hb⟩;have n0_:=Aside0.mk (Kd.S_below qz27 hb);have n1_:=Aside0.mk (Kd.R_below qz9 hb);have n2_:=Aside0.mk (Kd.R_below qz7 hb);have n3_:=Aside0.mk (Kd.S_lower ho0 (below_size qz1));have n4_:=Aside0.mk (below_step qz1 hb);clear HO_3 HO_4 HO_5 HB;have HO_3:=n0_;have HO_4:=n1_;have HO_5:=n2_;have HO485:=n3_;have HB:=n4_;clear n0_ n1_ n2_ n3_ n4_;(try clear hb);(try clear hb2);(try clear hk);(try clear hi);(try clear ho0))))
     (try simp only [Act.put,List.setIfInBounds_toArray,List.set_cons_zero,List.set_cons_succ])
     go_cut [66] (fun v66 wc=>∃ (kq:Nat) (x66_34:Bool),v66 = .bool x66_34∧Aside0 (laws_FnSubArgs.j1 kq t468 t469 t470 t482 t483 x66_34=some r)∧Aside0 (kq≤kj3)∧Aside0 (Kd.S k30 30 wc w.heap.size (fun _=>True) (.slice Ao36 t468.length co36) t468)∧Aside0 (Kd.R k46 46 wc w.heap.size (fun _=>True) (.slice Ao37 t469.length co37) t469)∧Aside0 (Kd.R k46 46 wc w.heap.size (fun _=>True) (.slice Ao38 t470.length co38) t470)∧Aside0 (Kd.S k30 30 wc w.heap.size (fun _=>True) v484 t482)∧Aside0 (Below w.heap.size w wc))
     case first=>
      have H:=HC35.out
      clear HC35
      by_cases c40:0<(t470.length:Int)
      ·rw [if_pos c40] at H
       have c40b0:decide (0<(t470.length:Int))=true:=decide_eq_true c40
       have c40b1:decide (0<t470.length)=true:=decide_eq_true (by omega)
       clear c40
       (first|rw [c40b0]|(simp only [i64_w,i32_w];rw [c40b0])|skip)
       by_cases c41:((rd_T46 t470 0).f0)=3
       ·rw [if_pos c41] at H
        have c41b0:(((rd_T46 t470 0).f0) == 3)=true:=beq_iff_eq.mpr c41
        have c41b1:(((rd_T46 t470 0).f0) != 3)=false:=bne_eq_false_iff_eq.mpr c41
        clear c41
        by_cases c42:0<(t469.length:Int)
        ·rw [if_pos c42] at H
         have c42b0:decide (0<(t469.length:Int))=true:=decide_eq_true c42
         have c42b1:decide (0<t469.length)=true:=decide_eq_true (by omega)
         clear c42
         have H':=Aside0.mk H
         clear H
         have p486:0≤(0:Int):=(by omega)
         have q486:0<(t470.length:Int):=of_decide_eq_true qz6
         obtain ⟨ad486,e486,hx486_0,hx486_1,hx486_2⟩:=at_T46 (Kd.R_reads' HO_5.out).2.2 0 p486 q486
         cases e486
         have qi486:(0<t470.length)=True:=eq_true (by omega)
         (try rw [show ((0:Int)).toNat=0 from rfl] at hx486_0)
         (try rw [show 0 * 3=0 from rfl] at hx486_0)
         (try rw [Addr.add_zero'] at hx486_0)
         (try rw [show ((0:Int)).toNat=0 from rfl] at hx486_1)
         (try rw [show 0 * 3=0 from rfl] at hx486_1)
         (try rw [Addr.add_zero'] at hx486_1)
         (try rw [show ((0:Int)).toNat=0 from rfl] at hx486_2)
         (try rw [show 0 * 3=0 from rfl] at hx486_2)
         (try rw [Addr.add_zero'] at hx486_2)
         replace p486:=eq_true p486
         replace q486:=eq_true q486
         have p487:0≤(0:Int):=(by omega)
         have q487:0<(t470.length:Int):=of_decide_eq_true qz6
         obtain ⟨ad487,e487,hx487_0,hx487_1,hx487_2⟩:=at_T46 (Kd.R_reads' HO_5.out).2.2 0 p487 q487
         obtain rfl:ad486=ad487:=(by injection e487)
         have qi487:(0<t470.length)=True:=eq_true (by omega)
         (try rw [show ((0:Int)).toNat=0 from rfl] at hx487_0)
         (try rw [show 0 * 3=0 from rfl] at hx487_0)
         (try rw [Addr.add_zero'] at hx487_0)
         (try rw [show ((0:Int)).toNat=0 from rfl] at hx487_1)
         (try rw [show 0 * 3=0 from rfl] at hx487_1)
         (try rw [Addr.add_zero'] at hx487_1)
         (try rw [show ((0:Int)).toNat=0 from rfl] at hx487_2)
         (try rw [show 0 * 3=0 from rfl] at hx487_2)
         (try rw [Addr.add_zero'] at hx487_2)
         replace p487:=eq_true p487
         replace q487:=eq_true q487
         have p488:0≤(0:Int):=(by omega)
         have q488:0<(t469.length:Int):=of_decide_eq_true qz6
         obtain ⟨ad488,e488,hx488_0,hx488_1,hx488_2⟩:=at_T46 (Kd.R_reads' HO_4.out).2.2 0 p488 q488
         cases e488
         have qi488:(0<t469.length)=True:=eq_true (by omega)
         (try rw [show ((0:Int)).toNat=0 from rfl] at hx488_0)
         (try rw [show 0 * 3=0 from rfl] at hx488_0)
         (try rw [Addr.add_zero'] at hx488_0)
         (try rw [show ((0:Int)).toNat=0 from rfl] at hx488_1)
         (try rw [show 0 * 3=0 from rfl] at hx488_1)
         (try rw [Addr.add_zero'] at hx488_1)
         (try rw [show ((0:Int)).toNat=0 from rfl] at hx488_2)
         (try rw [show 0 * 3=0 from rfl] at hx488_2)
         (try rw [Addr.add_zero'] at hx488_2)
         replace p488:=eq_true p488
         replace q488:=eq_true q488
         go_wp2
         repeat (go_quiet (fail);try go_wp2)
         go_meet
         case rel=>exact ⟨_,((!(((rd_T46 t470 0).f0) == ((rd_T46 t469 0).f0)) || (!(((rd_T46 t470 0).f1) == ((rd_T46 t469 0).f1)) || (!((((rd_T46 t470 0).f2).toList) == (((rd_T46 t469 0).f2).toList)))))),qz12,H',⟨by have:=HJ3.out;first|omega|exact Nat.le_refl _⟩,⟨qz27⟩,⟨qz9⟩,⟨qz7⟩,⟨by (with_reducible repeat (first|apply Kd.S_alloc|apply Kd.S_drewN|apply Kd.S_drew));exact HO485.out⟩,⟨qz5⟩⟩
        ·rw [if_neg c42] at H
         exact absurd H (by simp)
       ·rw [if_neg c41] at H
        have c41b0:(((rd_T46 t470 0).f0) == 3)=false:=beq_eq_false_iff_ne.mpr c41
        have c41b1:(((rd_T46 t470 0).f0) != 3)=true:=bne_iff_ne.mpr c41
        have H':=Aside0.mk H
        clear H
        have p486:0≤(0:Int):=(by omega)
        have q486:0<(t470.length:Int):=of_decide_eq_true qz6
        obtain ⟨ad486,e486,hx486_0,hx486_1,hx486_2⟩:=at_T46 (Kd.R_reads' HO_5.out).2.2 0 p486 q486
        cases e486
        have qi486:(0<t470.length)=True:=eq_true (by omega)
        (try rw [show ((0:Int)).toNat=0 from rfl] at hx486_0)
        (try rw [show 0 * 3=0 from rfl] at hx486_0)
        (try rw [Addr.add_zero'] at hx486_0)
        (try rw [show ((0:Int)).toNat=0 from rfl] at hx486_1)
        (try rw [show 0 * 3=0 from rfl] at hx486_1)
        (try rw [Addr.add_zero'] at hx486_1)
        (try rw [show ((0:Int)).toNat=0 from rfl] at hx486_2)
        (try rw [show 0 * 3=0 from rfl] at hx486_2)
        (try rw [Addr.add_zero'] at hx486_2)
        replace p486:=eq_true p486
        replace q486:=eq_true q486
        go_wp2
        repeat (go_quiet (fail);try go_wp2)
        go_meet
        case rel=>exact ⟨_,(false),qz12,H',⟨by have:=HJ3.out;first|omega|exact Nat.le_refl _⟩,⟨qz27⟩,⟨qz9⟩,⟨qz7⟩,⟨by (with_reducible repeat (first|apply Kd.S_alloc|apply Kd.S_drewN|apply Kd.S_drew));exact HO485.out⟩,⟨qz5⟩⟩
      ·rw [if_neg c40] at H
       exact absurd H (by simp)
     case rest=>
      clear HC35
      try clear c1
      try clear c2
      try clear c2b0
      try clear c2b1
      try clear p2
      try clear c3
      try clear c4
      try clear p4
      try clear q4
      try clear hx4
      try clear qi4
      try clear c7
      try clear c9
      try clear c11
      try clear c12
      try clear c12b0
      try clear c12b1
      try clear c31
      try clear c40
      try clear c40b0
      try clear c40b1
      try clear c41
      try clear c41b0
      try clear c41b1
      try clear c42
      try clear c42b0
      try clear c42b1
      try clear hx480_0
      try clear hx480_1
      try clear hx480_2
      try clear hx486_0
      try clear hx486_1
      try clear hx486_2
      try clear hx487_0
      try clear hx487_1
      try clear hx487_2
      try clear hx488_0
      try clear hx488_1
      try clear hx488_2
      try clear p2
      try clear p4
      try clear p480
      try clear p486
      try clear p487
      try clear p488
      try clear q4
      try clear q480
      try clear q486
      try clear q487
      try clear q488
      obtain ⟨kq,x66_34,rfl,HA,HJ34,HO_3,HO_4,HO_5,HO_6,HB⟩:=hcut
      cases kq with
      | zero=>exact absurd HA.out (by simp [laws_FnSubArgs.j1])
      | succ kj34=>
       have H:=HA.out
       clear HA
       simp only [laws_FnSubArgs.j1] at H
       by_cases c43:x66_34=true
       ·subst c43
        have H1:(if t483=2 then (some true) else (some (t483 == 3)))=some r:=qz47
        clear H
        have H:=H1
        clear H1
        by_cases c44:t483=2
        ·rw [if_pos c44] at H
         have c44b0:(t483 == 2)=true:=beq_iff_eq.mpr c44
         have c44b1:(t483 != 2)=false:=bne_eq_false_iff_eq.mpr c44
         clear c44
         obtain rfl:=Option.some.inj H
         go_wp2
         repeat (go_quiet (fail);try go_wp2)
         go_ret
         exact ⟨qz8,qz5⟩
        ·rw [if_neg c44] at H
         have c44b0:(t483 == 2)=false:=beq_eq_false_iff_ne.mpr c44
         have c44b1:(t483 != 2)=true:=bne_iff_ne.mpr c44
         obtain rfl:=Option.some.inj H
         go_wp2
         repeat (go_quiet (fail);try go_wp2)
         go_ret
         exact ⟨qz8,qz5⟩
       ·replace c43:=Bool.eq_false_iff.mpr c43
        subst c43
        have H1:(if 0<(t470.length:Int) then (if ((rd_T46 t470 0).f0)=3 then (laws_FnSubArgs.j2 kj34 t468 t469 t470 t482 t483 (t483 == 3)) else (laws_FnSubArgs.j2 kj34 t468 t469 t470 t482 t483 true)) else (none))=some r:=qz31
        clear H
        have H:=H1
        clear H1
        have HC45:=Aside0.mk H
        clear H
        go_upto_region 9 with (fail)
        repeat (go_quiet (fail);go_upto_region 9 with (fail))
        go_cut [81] (fun v81 wc=>∃ (kq:Nat) (x81_44:Bool),v81 = .bool x81_44∧Aside0 (laws_FnSubArgs.j2 kq t468 t469 t470 t482 t483 x81_44=some r)∧Aside0 (kq≤kj34)∧Aside0 (Kd.S k30 30 wc w.heap.size (fun _=>True) (.slice Ao36 t468.length co36) t468)∧Aside0 (Kd.R k46 46 wc w.heap.size (fun _=>True) (.slice Ao37 t469.length co37) t469)∧Aside0 (Kd.R k46 46 wc w.heap.size (fun _=>True) (.slice Ao38 t470.length co38) t470)∧Aside0 (Kd.S k30 30 wc w.heap.size (fun _=>True) v484 t482)∧Aside0 (Below w.heap.size w wc))
        case first=>
         have H:=HC45.out
         clear HC45
         by_cases c46:0<(t470.length:Int)
         ·rw [if_pos c46] at H
          have c46b0:decide (0<(t470.length:Int))=true:=decide_eq_true c46
          have c46b1:decide (0<t470.length)=true:=decide_eq_true (by omega)
          clear c46
          (first|rw [c46b0]|(simp only [i64_w,i32_w];rw [c46b0])|skip)
          by_cases c47:((rd_T46 t470 0).f0)=3
          ·rw [if_pos c47] at H
           have c47b0:(((rd_T46 t470 0).f0) == 3)=true:=beq_iff_eq.mpr c47
           have c47b1:(((rd_T46 t470 0).f0) != 3)=false:=bne_eq_false_iff_eq.mpr c47
           clear c47
           have H':=Aside0.mk H
           clear H
           have p489:0≤(0:Int):=(by omega)
           have q489:0<(t470.length:Int):=of_decide_eq_true qz6
           obtain ⟨ad489,e489,hx489_0,hx489_1,hx489_2⟩:=at_T46 (Kd.R_reads' HO_5.out).2.2 0 p489 q489
           cases e489
           have qi489:(0<t470.length)=True:=eq_true (by omega)
           (try rw [show ((0:Int)).toNat=0 from rfl] at hx489_0)
           (try rw [show 0 * 3=0 from rfl] at hx489_0)
           (try rw [Addr.add_zero'] at hx489_0)
           (try rw [show ((0:Int)).toNat=0 from rfl] at hx489_1)
           (try rw [show 0 * 3=0 from rfl] at hx489_1)
           (try rw [Addr.add_zero'] at hx489_1)
           (try rw [show ((0:Int)).toNat=0 from rfl] at hx489_2)
           (try rw [show 0 * 3=0 from rfl] at hx489_2)
           (try rw [Addr.add_zero'] at hx489_2)
           replace p489:=eq_true p489
           replace q489:=eq_true q489
           go_wp2
           repeat (go_quiet (fail);try go_wp2)
           go_meet
           case rel=>exact ⟨_,((t483 == 3)),qz12,H',⟨by have:=HJ3.out;have:=HJ34.out;first|omega|exact Nat.le_refl _⟩,⟨qz27⟩,⟨qz9⟩,⟨qz7⟩,⟨qz10⟩,⟨qz5⟩⟩
          ·rw [if_neg c47] at H
           have c47b0:(((rd_T46 t470 0).f0) == 3)=false:=beq_eq_false_iff_ne.mpr c47
           have c47b1:(((rd_T46 t470 0).f0) != 3)=true:=bne_iff_ne.mpr c47
           have H':=Aside0.mk H
           clear H
           have p489:0≤(0:Int):=(by omega)
           have q489:0<(t470.length:Int):=of_decide_eq_true qz6
           obtain ⟨ad489,e489,hx489_0,hx489_1,hx489_2⟩:=at_T46 (Kd.R_reads' HO_5.out).2.2 0 p489 q489
           cases e489
           have qi489:(0<t470.length)=True:=eq_true (by omega)
           (try rw [show ((0:Int)).toNat=0 from rfl] at hx489_0)
           (try rw [show 0 * 3=0 from rfl] at hx489_0)
           (try rw [Addr.add_zero'] at hx489_0)
           (try rw [show ((0:Int)).toNat=0 from rfl] at hx489_1)
           (try rw [show 0 * 3=0 from rfl] at hx489_1)
           (try rw [Addr.add_zero'] at hx489_1)
           (try rw [show ((0:Int)).toNat=0 from rfl] at hx489_2)
           (try rw [show 0 * 3=0 from rfl] at hx489_2)
           (try rw [Addr.add_zero'] at hx489_2)
           replace p489:=eq_true p489
           replace q489:=eq_true q489
           go_wp2
           repeat (go_quiet (fail);try go_wp2)
           go_meet
           case rel=>exact ⟨_,(true),qz12,H',⟨by have:=HJ3.out;have:=HJ34.out;first|omega|exact Nat.le_refl _⟩,⟨qz27⟩,⟨qz9⟩,⟨qz7⟩,⟨qz10⟩,⟨qz5⟩⟩
         ·rw [if_neg c46] at H
          exact absurd H (by simp)
        case rest=>
         clear HC45
         try clear c1
         try clear c2
         try clear c2b0
         try clear c2b1
         try clear p2
         try clear c3
         try clear c4
         try clear p4
         try clear q4
         try clear hx4
         try clear qi4
         try clear c7
         try clear c9
         try clear c11
         try clear c12
         try clear c12b0
         try clear c12b1
         try clear c31
         try clear c40
         try clear c40b0
         try clear c40b1
         try clear c41
         try clear c41b0
         try clear c41b1
         try clear c42
         try clear c42b0
         try clear c42b1
         try clear c43
         try clear c44
         try clear c44b0
         try clear c44b1
         try clear c46
         try clear c46b0
         try clear c46b1
         try clear c47
         try clear c47b0
         try clear c47b1
         try clear hx480_0
         try clear hx480_1
         try clear hx480_2
         try clear hx486_0
         try clear hx486_1
         try clear hx486_2
         try clear hx487_0
         try clear hx487_1
         try clear hx487_2
         try clear hx488_0
         try clear hx488_1
         try clear hx488_2
         try clear hx489_0
         try clear hx489_1
         try clear hx489_2
         try clear p2
         try clear p4
         try clear p480
         try clear p486
         try clear p487
         try clear p488
         try clear p489
         try clear q4
         try clear q480
         try clear q486
         try clear q487
         try clear q488
         try clear q489
         obtain ⟨kq,x81_44,rfl,HA,HJ44,HO_3,HO_4,HO_5,HO_6,HB⟩:=hcut
         cases kq with
         | zero=>exact absurd HA.out (by simp [laws_FnSubArgs.j2])
         | succ kj44=>
          have H:=HA.out
          clear HA
          simp only [laws_FnSubArgs.j2] at H
          by_cases c48:x81_44=true
          ·subst c48
           have H1:((laws_caOk.f).bind fun t490=>(some t490))=some r:=qz47
           clear H
           have H:=H1
           clear H1
           replace H:=Option.bind_eq_some_iff.mp H
           obtain ⟨t490,A490,H⟩:=H
           try dsimp only at H
           have A49:=Aside0.mk A490
           clear A490
           obtain rfl:=Option.some.inj H
           go_wp2_with (first|(go_at_call 22;(with_reducible refine (laws_caOk.calls  t490 _ A49.out).mono ?_);rintro e w50 ⟨rfl,hb⟩;have n0_:=Aside0.mk (Kd.S_below qz27 hb);have n1_:=Aside0.mk (Kd.R_below qz9 hb);have n2_:=Aside0.mk (Kd.R_below qz7 hb);have n3_:=Aside0.mk (Kd.S_below qz10 hb);have n4_:=Aside0.mk (below_step qz1 hb);clear HO_3 HO_4 HO_5 HO_6 HB;have HO_3:=n0_;have HO_4:=n1_;have HO_5:=n2_;have HO_6:=n3_;have HB:=n4_;clear n0_ n1_ n2_ n3_ n4_;(try clear hb);(try clear hb2);(try clear hk);(try clear hi)))
           repeat (go_quiet (first|(go_at_call 22;(with_reducible refine (laws_caOk.calls  t490 _ A49.out).mono ?_);rintro e w50 ⟨rfl,hb⟩;have n0_:=Aside0.mk (Kd.S_below qz27 hb);have n1_:=Aside0.mk (Kd.R_below qz9 hb);have n2_:=Aside0.mk (Kd.R_below qz7 hb);have n3_:=Aside0.mk (Kd.S_below qz10 hb);have n4_:=Aside0.mk (below_step qz1 hb);clear HO_3 HO_4 HO_5 HO_6 HB;have HO_3:=n0_;have HO_4:=n1_;have HO_5:=n2_;have HO_6:=n3_;have HB:=n4_;clear n0_ n1_ n2_ n3_ n4_;(try clear hb);(try clear hb2);(try clear hk);(try clear hi)));try go_wp2_with (first|(go_at_call 22;(with_reducible refine (laws_caOk.calls  t490 _ A49.out).mono ?_);rintro e w50 ⟨rfl,hb⟩;have n0_:=Aside0.mk (Kd.S_below qz27 hb);have n1_:=Aside0.mk (Kd.R_below qz9 hb);have n2_:=Aside0.mk (Kd.R_below qz7 hb);have n3_:=Aside0.mk (Kd.S_below qz10 hb);have n4_:=Aside0.mk (below_step qz1 hb);clear HO_3 HO_4 HO_5 HO_6 HB;have HO_3:=n0_;have HO_4:=n1_;have HO_5:=n2_;have HO_6:=n3_;have HB:=n4_;clear n0_ n1_ n2_ n3_ n4_;(try clear hb);(try clear hb2);(try clear hk);(try clear hi))))
           go_ret
           exact ⟨qz8,qz5⟩
          ·replace c48:=Bool.eq_false_iff.mpr c48
           subst c48
           have H1:(laws_FnSubArgs.l0 kj44 t469 t470 t482 t483 t468 0)=some r:=qz31
           clear H
           have H:=H1
           clear H1
           have H':=Aside0.mk H
           clear H
           go_wp2
           repeat (go_quiet (fail);try go_wp2)
           go_loopg [8,9] kj44 (fun kq v8 v9 w'=>∃ (x8_4:List (S30)) (x9_4:Int),v9 = .int .i64 x9_4∧Aside0 (laws_FnSubArgs.l0 kq t469 t470 t482 t483 x8_4 x9_4=some r)∧Aside0 (kq≤kj44)∧Aside0 (Kd.R k46 46 w' w.heap.size (fun _=>True) (.slice Ao37 t469.length co37) t469)∧Aside0 (Kd.R k46 46 w' w.heap.size (fun _=>True) (.slice Ao38 t470.length co38) t470)∧Aside0 (Kd.S k30 30 w' w.heap.size (fun _=>True) v484 t482)∧Aside0 (Kd.S k30 30 w' w.heap.size (fun _=>True) v8 x8_4)∧Aside0 (Below w.heap.size w w'))
           case atStart=>exact ⟨(t468),(0),qz12,H',⟨Nat.le_refl _⟩,⟨qz9⟩,⟨qz7⟩,⟨qz10⟩,⟨qz27⟩,⟨qz5⟩⟩
           case round=>
            clear H'
            try clear c1
            try clear c2
            try clear c2b0
            try clear c2b1
            try clear p2
            try clear c3
            try clear c4
            try clear p4
            try clear q4
            try clear hx4
            try clear qi4
            try clear c7
            try clear c9
            try clear c11
            try clear c12
            try clear c12b0
            try clear c12b1
            try clear c31
            try clear c40
            try clear c40b0
            try clear c40b1
            try clear c41
            try clear c41b0
            try clear c41b1
            try clear c42
            try clear c42b0
            try clear c42b1
            try clear c43
            try clear c44
            try clear c44b0
            try clear c44b1
            try clear c46
            try clear c46b0
            try clear c46b1
            try clear c47
            try clear c47b0
            try clear c47b1
            try clear c48
            try clear p48
            try clear q48
            try clear hx48
            try clear qi48
            try clear hx480_0
            try clear hx480_1
            try clear hx480_2
            try clear hx486_0
            try clear hx486_1
            try clear hx486_2
            try clear hx487_0
            try clear hx487_1
            try clear hx487_2
            try clear hx488_0
            try clear hx488_1
            try clear hx488_2
            try clear hx489_0
            try clear hx489_1
            try clear hx489_2
            try clear p2
            try clear p4
            try clear p480
            try clear p486
            try clear p487
            try clear p488
            try clear p489
            try clear q4
            try clear q480
            try clear q486
            try clear q487
            try clear q488
            try clear q489
            obtain ⟨x8_4,x9_4,rfl,HA,HK4,HO_4,HO_5,HO_6,HO_8,HB⟩:=hrel
            cases gk with
            | zero=>exact absurd HA.out (by simp [laws_FnSubArgs.l0])
            | succ k4=>
             have H:=HA.out
             clear HA
             simp only [laws_FnSubArgs.l0] at H
             by_cases c51:0<(t469.length:Int)
             ·rw [if_pos c51] at H
              have c51b0:decide (0<(t469.length:Int))=true:=decide_eq_true c51
              have c51b1:decide (0<t469.length)=true:=decide_eq_true (by omega)
              clear c51
              by_cases c52:x9_4<((rd_T46 t469 0).f1)
              ·rw [if_pos c52] at H
               have c52b0:decide (x9_4<((rd_T46 t469 0).f1))=true:=decide_eq_true c52
               clear c52
               replace H:=Option.bind_eq_some_iff.mp H
               obtain ⟨t492,A530,H⟩:=H
               try dsimp only at H
               have A53:=Aside0.mk A530
               clear A530
               replace H:=Option.bind_eq_some_iff.mp H
               obtain ⟨t495,A540,H⟩:=H
               try dsimp only at H
               have A54:=Aside0.mk A540
               clear A540
               replace H:=Option.bind_eq_some_iff.mp H
               obtain ⟨⟨t498,t499⟩,A550,H⟩:=H
               try dsimp only at H
               have A55:=Aside0.mk A550
               clear A550
               by_cases c56:t499=3
               ·rw [if_pos c56] at H
                have c56b0:(t499 == 3)=true:=beq_iff_eq.mpr c56
                have c56b1:(t499 != 3)=false:=bne_eq_false_iff_eq.mpr c56
                clear c56
                by_cases c57:t483=2
                ·rw [if_pos c57] at H
                 have c57b0:(t483 == 2)=true:=beq_iff_eq.mpr c57
                 have c57b1:(t483 != 2)=false:=bne_eq_false_iff_eq.mpr c57
                 clear c57
                 obtain rfl:=Option.some.inj H
                 have p491:0≤(0:Int):=(by omega)
                 have q491:0<(t469.length:Int):=of_decide_eq_true qz6
                 obtain ⟨ad491,e491,hx491_0,hx491_1,hx491_2⟩:=at_T46 (Kd.R_reads' HO_4.out).2.2 0 p491 q491
                 cases e491
                 have qi491:(0<t469.length)=True:=eq_true (by omega)
                 (try rw [show ((0:Int)).toNat=0 from rfl] at hx491_0)
                 (try rw [show 0 * 3=0 from rfl] at hx491_0)
                 (try rw [Addr.add_zero'] at hx491_0)
                 (try rw [show ((0:Int)).toNat=0 from rfl] at hx491_1)
                 (try rw [show 0 * 3=0 from rfl] at hx491_1)
                 (try rw [Addr.add_zero'] at hx491_1)
                 (try rw [show ((0:Int)).toNat=0 from rfl] at hx491_2)
                 (try rw [show 0 * 3=0 from rfl] at hx491_2)
                 (try rw [Addr.add_zero'] at hx491_2)
                 replace p491:=eq_true p491
                 replace q491:=eq_true q491
                 go_wp2_with (first|(go_at_call 46;(with_reducible refine (impl_TrmArg.calls k4 _ _ t469 x9_4 t492 _ ?side1 ?side2 A53.out).mono ?_);(case side1=>exact qz13);(case side2=>exact (Kd.R_reads' HO_4.out).2.1);rintro e w58 ⟨v493,rfl,ho0,hb⟩;have n0_:=Aside0.mk (Kd.R_below qz9 hb);have n1_:=Aside0.mk (Kd.R_below qz7 hb);have n2_:=Aside0.mk (Kd.S_below qz10 hb);have n3_:=Aside0.mk (Kd.S_below qz11 hb);have n4_:=Aside0.mk (Kd.R_lower ho0 (below_size qz1));have n5_:=Aside0.mk (below_step qz1 hb);clear HO_4 HO_5 HO_6 HO_8 HB;have HO_4:=n0_;have HO_5:=n1_;have HO_6:=n2_;have HO_8:=n3_;have HO494:=n4_;have HB:=n5_;clear n0_ n1_ n2_ n3_ n4_ n5_;(try clear hb);(try clear hb2);(try clear hk);(try clear hi);(try clear ho0))|(go_at_call 46;(with_reducible refine (impl_TrmArg.calls k4 _ _ t470 x9_4 t495 _ ?side1 ?side2 A54.out).mono ?_);(case side1=>exact qz19);(case side2=>exact (Kd.R_reads' HO_5.out).2.1);rintro e w59 ⟨v496,rfl,ho0,hb⟩;have n0_:=Aside0.mk (Kd.R_below qz9 hb);have n1_:=Aside0.mk (Kd.R_below qz7 hb);have n2_:=Aside0.mk (Kd.S_below qz10 hb);have n3_:=Aside0.mk (Kd.S_below qz11 hb);have n4_:=Aside0.mk (Kd.R_below qz20 hb);have n5_:=Aside0.mk (Kd.R_lower ho0 (below_size qz1));have n6_:=Aside0.mk (below_step qz1 hb);clear HO_4 HO_5 HO_6 HO_8 HO494 HB;have HO_4:=n0_;have HO_5:=n1_;have HO_6:=n2_;have HO_8:=n3_;have HO494:=n4_;have HO497:=n5_;have HB:=n6_;clear n0_ n1_ n2_ n3_ n4_ n5_ n6_;(try clear hb);(try clear hb2);(try clear hk);(try clear hi);(try clear ho0);obtain ⟨Ao60,co60,eo60⟩:=Kd.S_slice HO_8.out;subst eo60;obtain ⟨Ao61,co61,eo61⟩:=Kd.R_slice HO494.out;subst eo61;obtain ⟨Ao62,co62,eo62⟩:=Kd.R_slice HO497.out;subst eo62)|(go_at_call 31;(with_reducible refine (impl_SubUnify.calls k4 _ _ x8_4 _ _ t492 _ _ t495 t498 t499 _ ?side1 ?side2 ?side3 ?side4 ?side5 ?side6 A55.out).mono ?_);(case side1=>exact qz22);(case side2=>exact (Kd.S_reads' HO_8.out).2.1);(case side3=>exact qz30);(case side4=>exact (Kd.R_reads' HO494.out).2.1);(case side5=>exact qz29);(case side6=>exact (Kd.R_reads' HO497.out).2.1);rintro e w63 ⟨v500,rfl,ho0,hb⟩;have n0_:=Aside0.mk (Kd.R_below qz9 hb);have n1_:=Aside0.mk (Kd.R_below qz7 hb);have n2_:=Aside0.mk (Kd.S_below qz10 hb);have n3_:=Aside0.mk (Kd.S_below qz11 hb);have n4_:=Aside0.mk (Kd.R_below qz20 hb);have n5_:=Aside0.mk (Kd.R_below qz35 hb);have n6_:=Aside0.mk (Kd.S_lower ho0 (below_size qz1));have n7_:=Aside0.mk (below_step qz1 hb);clear HO_4 HO_5 HO_6 HO_8 HO494 HO497 HB;have HO_4:=n0_;have HO_5:=n1_;have HO_6:=n2_;have HO_8:=n3_;have HO494:=n4_;have HO497:=n5_;have HO501:=n6_;have HB:=n7_;clear n0_ n1_ n2_ n3_ n4_ n5_ n6_ n7_;(try clear hb);(try clear hb2);(try clear hk);(try clear hi);(try clear ho0)))
                 repeat (go_quiet (first|(go_at_call 46;(with_reducible refine (impl_TrmArg.calls k4 _ _ t469 x9_4 t492 _ ?side1 ?side2 A53.out).mono ?_);(case side1=>exact qz13);(case side2=>exact (Kd.R_reads' HO_4.out).2.1);rintro e w58 ⟨v493,rfl,ho0,hb⟩;have n0_:=Aside0.mk (Kd.R_below qz9 hb);have n1_:=Aside0.mk (Kd.R_below qz7 hb);have n2_:=Aside0.mk (Kd.S_below qz10 hb);have n3_:=Aside0.mk (Kd.S_below qz11 hb);have n4_:=Aside0.mk (Kd.R_lower ho0 (below_size qz1));have n5_:=Aside0.mk (below_step qz1 hb);clear HO_4 HO_5 HO_6 HO_8 HB;have HO_4:=n0_;have HO_5:=n1_;have HO_6:=n2_;have HO_8:=n3_;have HO494:=n4_;have HB:=n5_;clear n0_ n1_ n2_ n3_ n4_ n5_;(try clear hb);(try clear hb2);(try clear hk);(try clear hi);(try clear ho0))|(go_at_call 46;(with_reducible refine (impl_TrmArg.calls k4 _ _ t470 x9_4 t495 _ ?side1 ?side2 A54.out).mono ?_);(case side1=>exact qz19);(case side2=>exact (Kd.R_reads' HO_5.out).2.1);rintro e w59 ⟨v496,rfl,ho0,hb⟩;have n0_:=Aside0.mk (Kd.R_below qz9 hb);have n1_:=Aside0.mk (Kd.R_below qz7 hb);have n2_:=Aside0.mk (Kd.S_below qz10 hb);have n3_:=Aside0.mk (Kd.S_below qz11 hb);have n4_:=Aside0.mk (Kd.R_below qz20 hb);have n5_:=Aside0.mk (Kd.R_lower ho0 (below_size qz1));have n6_:=Aside0.mk (below_step qz1 hb);clear HO_4 HO_5 HO_6 HO_8 HO494 HB;have HO_4:=n0_;have HO_5:=n1_;have HO_6:=n2_;have HO_8:=n3_;have HO494:=n4_;have HO497:=n5_;have HB:=n6_;clear n0_ n1_ n2_ n3_ n4_ n5_ n6_;(try clear hb);(try clear hb2);(try clear hk);(try clear hi);(try clear ho0);obtain ⟨Ao60,co60,eo60⟩:=Kd.S_slice HO_8.out;subst eo60;obtain ⟨Ao61,co61,eo61⟩:=Kd.R_slice HO494.out;subst eo61;obtain ⟨Ao62,co62,eo62⟩:=Kd.R_slice HO497.out;subst eo62)|(go_at_call 31;(with_reducible refine (impl_SubUnify.calls k4 _ _ x8_4 _ _ t492 _ _ t495 t498 t499 _ ?side1 ?side2 ?side3 ?side4 ?side5 ?side6 A55.out).mono ?_);(case side1=>exact qz22);(case side2=>exact (Kd.S_reads' HO_8.out).2.1);(case side3=>exact qz30);(case side4=>exact (Kd.R_reads' HO494.out).2.1);(case side5=>exact qz29);(case side6=>exact (Kd.R_reads' HO497.out).2.1);rintro e w63 ⟨v500,rfl,ho0,hb⟩;have n0_:=Aside0.mk (Kd.R_below qz9 hb);have n1_:=Aside0.mk (Kd.R_below qz7 hb);have n2_:=Aside0.mk (Kd.S_below qz10 hb);have n3_:=Aside0.mk (Kd.S_below qz11 hb);have n4_:=Aside0.mk (Kd.R_below qz20 hb);have n5_:=Aside0.mk (Kd.R_below qz35 hb);have n6_:=Aside0.mk (Kd.S_lower ho0 (below_size qz1));have n7_:=Aside0.mk (below_step qz1 hb);clear HO_4 HO_5 HO_6 HO_8 HO494 HO497 HB;have HO_4:=n0_;have HO_5:=n1_;have HO_6:=n2_;have HO_8:=n3_;have HO494:=n4_;have HO497:=n5_;have HO501:=n6_;have HB:=n7_;clear n0_ n1_ n2_ n3_ n4_ n5_ n6_ n7_;(try clear hb);(try clear hb2);(try clear hk);(try clear hi);(try clear ho0)));try go_wp2_with (first|(go_at_call 46;(with_reducible refine (impl_TrmArg.calls k4 _ _ t469 x9_4 t492 _ ?side1 ?side2 A53.out).mono ?_);(case side1=>exact qz13);(case side2=>exact (Kd.R_reads' HO_4.out).2.1);rintro e w58 ⟨v493,rfl,ho0,hb⟩;have n0_:=Aside0.mk (Kd.R_below qz9 hb);have n1_:=Aside0.mk (Kd.R_below qz7 hb);have n2_:=Aside0.mk (Kd.S_below qz10 hb);have n3_:=Aside0.mk (Kd.S_below qz11 hb);have n4_:=Aside0.mk (Kd.R_lower ho0 (below_size qz1));have n5_:=Aside0.mk (below_step qz1 hb);clear HO_4 HO_5 HO_6 HO_8 HB;have HO_4:=n0_;have HO_5:=n1_;have HO_6:=n2_;have HO_8:=n3_;have HO494:=n4_;have HB:=n5_;clear n0_ n1_ n2_ n3_ n4_ n5_;(try clear hb);(try clear hb2);(try clear hk);(try clear hi);(try clear ho0))|(go_at_call 46;(with_reducible refine (impl_TrmArg.calls k4 _ _ t470 x9_4 t495 _ ?side1 ?side2 A54.out).mono ?_);(case side1=>exact qz19);(case side2=>exact (Kd.R_reads' HO_5.out).2.1);rintro e w59 ⟨v496,rfl,ho0,hb⟩;have n0_:=Aside0.mk (Kd.R_below qz9 hb);have n1_:=Aside0.mk (Kd.R_below qz7 hb);have n2_:=Aside0.mk (Kd.S_below qz10 hb);have n3_:=Aside0.mk (Kd.S_below qz11 hb);have n4_:=Aside0.mk (Kd.R_below qz20 hb);have n5_:=Aside0.mk (Kd.R_lower ho0 (below_size qz1));have n6_:=Aside0.mk (below_step qz1 hb);clear HO_4 HO_5 HO_6 HO_8 HO494 HB;have HO_4:=n0_;have HO_5:=n1_;have HO_6:=n2_;have HO_8:=n3_;have HO494:=n4_;have HO497:=n5_;have HB:=n6_;clear n0_ n1_ n2_ n3_ n4_ n5_ n6_;(try clear hb);(try clear hb2);(try clear hk);(try clear hi);(try clear ho0);obtain ⟨Ao60,co60,eo60⟩:=Kd.S_slice HO_8.out;subst eo60;obtain ⟨Ao61,co61,eo61⟩:=Kd.R_slice HO494.out;subst eo61;obtain ⟨Ao62,co62,eo62⟩:=Kd.R_slice HO497.out;subst eo62)|(go_at_call 31;(with_reducible refine (impl_SubUnify.calls k4 _ _ x8_4 _ _ t492 _ _ t495 t498 t499 _ ?side1 ?side2 ?side3 ?side4 ?side5 ?side6 A55.out).mono ?_);(case side1=>exact qz22);(case side2=>exact (Kd.S_reads' HO_8.out).2.1);(case side3=>exact qz30);(case side4=>exact (Kd.R_reads' HO494.out).2.1);(case side5=>exact qz29);(case side6=>exact (Kd.R_reads' HO497.out).2.1);rintro e w63 ⟨v500,rfl,ho0,hb⟩;have n0_:=Aside0.mk (Kd.R_below qz9 hb);have n1_:=Aside0.mk (Kd.R_below qz7 hb);have n2_:=Aside0.mk (Kd.S_below qz10 hb);have n3_:=Aside0.mk (Kd.S_below qz11 hb);have n4_:=Aside0.mk (Kd.R_below qz20 hb);have n5_:=Aside0.mk (Kd.R_below qz35 hb);have n6_:=Aside0.mk (Kd.S_lower ho0 (below_size qz1));have n7_:=Aside0.mk (below_step qz1 hb);clear HO_4 HO_5 HO_6 HO_8 HO494 HO497 HB;have HO_4:=n0_;have HO_5:=n1_;have HO_6:=n2_;have HO_8:=n3_;have HO494:=n4_;have HO497:=n5_;have HO501:=n6_;have HB:=n7_;clear n0_ n1_ n2_ n3_ n4_ n5_ n6_ n7_;(try clear hb);(try clear hb2);(try clear hk);(try clear hi);(try clear ho0))))
                 go_ret
                 exact ⟨qz8,qz5⟩
                ·rw [if_neg c57] at H
                 have c57b0:(t483 == 2)=false:=beq_eq_false_iff_ne.mpr c57
                 have c57b1:(t483 != 2)=true:=bne_iff_ne.mpr c57
                 replace H:=Option.bind_eq_some_iff.mp H
                 obtain ⟨t502,A640,H⟩:=H
                 try dsimp only at H
                 have A64:=Aside0.mk A640
                 clear A640
                 obtain rfl:=Option.some.inj H
                 have p491:0≤(0:Int):=(by omega)
                 have q491:0<(t469.length:Int):=of_decide_eq_true qz6
                 obtain ⟨ad491,e491,hx491_0,hx491_1,hx491_2⟩:=at_T46 (Kd.R_reads' HO_4.out).2.2 0 p491 q491
                 cases e491
                 have qi491:(0<t469.length)=True:=eq_true (by omega)
                 (try rw [show ((0:Int)).toNat=0 from rfl] at hx491_0)
                 (try rw [show 0 * 3=0 from rfl] at hx491_0)
                 (try rw [Addr.add_zero'] at hx491_0)
                 (try rw [show ((0:Int)).toNat=0 from rfl] at hx491_1)
                 (try rw [show 0 * 3=0 from rfl] at hx491_1)
                 (try rw [Addr.add_zero'] at hx491_1)
                 (try rw [show ((0:Int)).toNat=0 from rfl] at hx491_2)
                 (try rw [show 0 * 3=0 from rfl] at hx491_2)
                 (try rw [Addr.add_zero'] at hx491_2)
                 replace p491:=eq_true p491
                 replace q491:=eq_true q491
                 go_wp2_with (first|(go_at_call 46;(with_reducible refine (impl_TrmArg.calls k4 _ _ t469 x9_4 t492 _ ?side1 ?side2 A53.out).mono ?_);(case side1=>exact qz13);(case side2=>exact (Kd.R_reads' HO_4.out).2.1);rintro e w65 ⟨v493,rfl,ho0,hb⟩;have n0_:=Aside0.mk (Kd.R_below qz9 hb);have n1_:=Aside0.mk (Kd.R_below qz7 hb);have n2_:=Aside0.mk (Kd.S_below qz10 hb);have n3_:=Aside0.mk (Kd.S_below qz11 hb);have n4_:=Aside0.mk (Kd.R_lower ho0 (below_size qz1));have n5_:=Aside0.mk (below_step qz1 hb);clear HO_4 HO_5 HO_6 HO_8 HB;have HO_4:=n0_;have HO_5:=n1_;have HO_6:=n2_;have HO_8:=n3_;have HO494:=n4_;have HB:=n5_;clear n0_ n1_ n2_ n3_ n4_ n5_;(try clear hb);(try clear hb2);(try clear hk);(try clear hi);(try clear ho0))|(go_at_call 46;(with_reducible refine (impl_TrmArg.calls k4 _ _ t470 x9_4 t495 _ ?side1 ?side2 A54.out).mono ?_);(case side1=>exact qz19);(case side2=>exact (Kd.R_reads' HO_5.out).2.1);rintro e w66 ⟨v496,rfl,ho0,hb⟩;have n0_:=Aside0.mk (Kd.R_below qz9 hb);have n1_:=Aside0.mk (Kd.R_below qz7 hb);have n2_:=Aside0.mk (Kd.S_below qz10 hb);have n3_:=Aside0.mk (Kd.S_below qz11 hb);have n4_:=Aside0.mk (Kd.R_below qz20 hb);have n5_:=Aside0.mk (Kd.R_lower ho0 (below_size qz1));have n6_:=Aside0.mk (below_step qz1 hb);clear HO_4 HO_5 HO_6 HO_8 HO494 HB;have HO_4:=n0_;have HO_5:=n1_;have HO_6:=n2_;have HO_8:=n3_;have HO494:=n4_;have HO497:=n5_;have HB:=n6_;clear n0_ n1_ n2_ n3_ n4_ n5_ n6_;(try clear hb);(try clear hb2);(try clear hk);(try clear hi);(try clear ho0);obtain ⟨Ao67,co67,eo67⟩:=Kd.S_slice HO_8.out;subst eo67;obtain ⟨Ao68,co68,eo68⟩:=Kd.R_slice HO494.out;subst eo68;obtain ⟨Ao69,co69,eo69⟩:=Kd.R_slice HO497.out;subst eo69)|(go_at_call 31;(with_reducible refine (impl_SubUnify.calls k4 _ _ x8_4 _ _ t492 _ _ t495 t498 t499 _ ?side1 ?side2 ?side3 ?side4 ?side5 ?side6 A55.out).mono ?_);(case side1=>exact qz22);(case side2=>exact (Kd.S_reads' HO_8.out).2.1);(case side3=>exact qz30);(case side4=>exact (Kd.R_reads' HO494.out).2.1);(case side5=>exact qz29);(case side6=>exact (Kd.R_reads' HO497.out).2.1);rintro e w70 ⟨v500,rfl,ho0,hb⟩;have n0_:=Aside0.mk (Kd.R_below qz9 hb);have n1_:=Aside0.mk (Kd.R_below qz7 hb);have n2_:=Aside0.mk (Kd.S_below qz10 hb);have n3_:=Aside0.mk (Kd.S_below qz11 hb);have n4_:=Aside0.mk (Kd.R_below qz20 hb);have n5_:=Aside0.mk (Kd.R_below qz35 hb);have n6_:=Aside0.mk (Kd.S_lower ho0 (below_size qz1));have n7_:=Aside0.mk (below_step qz1 hb);clear HO_4 HO_5 HO_6 HO_8 HO494 HO497 HB;have HO_4:=n0_;have HO_5:=n1_;have HO_6:=n2_;have HO_8:=n3_;have HO494:=n4_;have HO497:=n5_;have HO501:=n6_;have HB:=n7_;clear n0_ n1_ n2_ n3_ n4_ n5_ n6_ n7_;(try clear hb);(try clear hb2);(try clear hk);(try clear hi);(try clear ho0))|(go_at_call 22;(with_reducible refine (laws_caOk.calls  t502 _ A64.out).mono ?_);rintro e w71 ⟨rfl,hb⟩;have n0_:=Aside0.mk (Kd.R_below qz9 hb);have n1_:=Aside0.mk (Kd.R_below qz7 hb);have n2_:=Aside0.mk (Kd.S_below qz10 hb);have n3_:=Aside0.mk (Kd.S_below qz11 hb);have n4_:=Aside0.mk (Kd.R_below qz20 hb);have n5_:=Aside0.mk (Kd.R_below qz35 hb);have n6_:=Aside0.mk (Kd.S_below qz72 hb);have n7_:=Aside0.mk (below_step qz1 hb);clear HO_4 HO_5 HO_6 HO_8 HO494 HO497 HO501 HB;have HO_4:=n0_;have HO_5:=n1_;have HO_6:=n2_;have HO_8:=n3_;have HO494:=n4_;have HO497:=n5_;have HO501:=n6_;have HB:=n7_;clear n0_ n1_ n2_ n3_ n4_ n5_ n6_ n7_;(try clear hb);(try clear hb2);(try clear hk);(try clear hi)))
                 repeat (go_quiet (first|(go_at_call 46;(with_reducible refine (impl_TrmArg.calls k4 _ _ t469 x9_4 t492 _ ?side1 ?side2 A53.out).mono ?_);(case side1=>exact qz13);(case side2=>exact (Kd.R_reads' HO_4.out).2.1);rintro e w65 ⟨v493,rfl,ho0,hb⟩;have n0_:=Aside0.mk (Kd.R_below qz9 hb);have n1_:=Aside0.mk (Kd.R_below qz7 hb);have n2_:=Aside0.mk (Kd.S_below qz10 hb);have n3_:=Aside0.mk (Kd.S_below qz11 hb);have n4_:=Aside0.mk (Kd.R_lower ho0 (below_size qz1));have n5_:=Aside0.mk (below_step qz1 hb);clear HO_4 HO_5 HO_6 HO_8 HB;have HO_4:=n0_;have HO_5:=n1_;have HO_6:=n2_;have HO_8:=n3_;have HO494:=n4_;have HB:=n5_;clear n0_ n1_ n2_ n3_ n4_ n5_;(try clear hb);(try clear hb2);(try clear hk);(try clear hi);(try clear ho0))|(go_at_call 46;(with_reducible refine (impl_TrmArg.calls k4 _ _ t470 x9_4 t495 _ ?side1 ?side2 A54.out).mono ?_);(case side1=>exact qz19);(case side2=>exact (Kd.R_reads' HO_5.out).2.1);rintro e w66 ⟨v496,rfl,ho0,hb⟩;have n0_:=Aside0.mk (Kd.R_below qz9 hb);have n1_:=Aside0.mk (Kd.R_below qz7 hb);have n2_:=Aside0.mk (Kd.S_below qz10 hb);have n3_:=Aside0.mk (Kd.S_below qz11 hb);have n4_:=Aside0.mk (Kd.R_below qz20 hb);have n5_:=Aside0.mk (Kd.R_lower ho0 (below_size qz1));have n6_:=Aside0.mk (below_step qz1 hb);clear HO_4 HO_5 HO_6 HO_8 HO494 HB;have HO_4:=n0_;have HO_5:=n1_;have HO_6:=n2_;have HO_8:=n3_;have HO494:=n4_;have HO497:=n5_;have HB:=n6_;clear n0_ n1_ n2_ n3_ n4_ n5_ n6_;(try clear hb);(try clear hb2);(try clear hk);(try clear hi);(try clear ho0);obtain ⟨Ao67,co67,eo67⟩:=Kd.S_slice HO_8.out;subst eo67;obtain ⟨Ao68,co68,eo68⟩:=Kd.R_slice HO494.out;subst eo68;obtain ⟨Ao69,co69,eo69⟩:=Kd.R_slice HO497.out;subst eo69)|(go_at_call 31;(with_reducible refine (impl_SubUnify.calls k4 _ _ x8_4 _ _ t492 _ _ t495 t498 t499 _ ?side1 ?side2 ?side3 ?side4 ?side5 ?side6 A55.out).mono ?_);(case side1=>exact qz22);(case side2=>exact (Kd.S_reads' HO_8.out).2.1);(case side3=>exact qz30);(case side4=>exact (Kd.R_reads' HO494.out).2.1);(case side5=>exact qz29);(case side6=>exact (Kd.R_reads' HO497.out).2.1);rintro e w70 ⟨v500,rfl,ho0,hb⟩;have n0_:=Aside0.mk (Kd.R_below qz9 hb);have n1_:=Aside0.mk (Kd.R_below qz7 hb);have n2_:=Aside0.mk (Kd.S_below qz10 hb);have n3_:=Aside0.mk (Kd.S_below qz11 hb);have n4_:=Aside0.mk (Kd.R_below qz20 hb);have n5_:=Aside0.mk (Kd.R_below qz35 hb);have n6_:=Aside0.mk (Kd.S_lower ho0 (below_size qz1));have n7_:=Aside0.mk (below_step qz1 hb);clear HO_4 HO_5 HO_6 HO_8 HO494 HO497 HB;have HO_4:=n0_;have HO_5:=n1_;have HO_6:=n2_;have HO_8:=n3_;have HO494:=n4_;have HO497:=n5_;have HO501:=n6_;have HB:=n7_;clear n0_ n1_ n2_ n3_ n4_ n5_ n6_ n7_;(try clear hb);(try clear hb2);(try clear hk);(try clear hi);(try clear ho0))|(go_at_call 22;(with_reducible refine (laws_caOk.calls  t502 _ A64.out).mono ?_);rintro e w71 ⟨rfl,hb⟩;have n0_:=Aside0.mk (Kd.R_below qz9 hb);have n1_:=Aside0.mk (Kd.R_below qz7 hb);have n2_:=Aside0.mk (Kd.S_below qz10 hb);have n3_:=Aside0.mk (Kd.S_below qz11 hb);have n4_:=Aside0.mk (Kd.R_below qz20 hb);have n5_:=Aside0.mk (Kd.R_below qz35 hb);have n6_:=Aside0.mk (Kd.S_below qz72 hb);have n7_:=Aside0.mk (below_step qz1 hb);clear HO_4 HO_5 HO_6 HO_8 HO494 HO497 HO501 HB;have HO_4:=n0_;have HO_5:=n1_;have HO_6:=n2_;have HO_8:=n3_;have HO494:=n4_;have HO497:=n5_;have HO501:=n6_;have HB:=n7_;clear n0_ n1_ n2_ n3_ n4_ n5_ n6_ n7_;(try clear hb);(try clear hb2);(try clear hk);(try clear hi)));try go_wp2_with (first|(go_at_call 46;(with_reducible refine (impl_TrmArg.calls k4 _ _ t469 x9_4 t492 _ ?side1 ?side2 A53.out).mono ?_);(case side1=>exact qz13);(case side2=>exact (Kd.R_reads' HO_4.out).2.1);rintro e w65 ⟨v493,rfl,ho0,hb⟩;have n0_:=Aside0.mk (Kd.R_below qz9 hb);have n1_:=Aside0.mk (Kd.R_below qz7 hb);have n2_:=Aside0.mk (Kd.S_below qz10 hb);have n3_:=Aside0.mk (Kd.S_below qz11 hb);have n4_:=Aside0.mk (Kd.R_lower ho0 (below_size qz1));have n5_:=Aside0.mk (below_step qz1 hb);clear HO_4 HO_5 HO_6 HO_8 HB;have HO_4:=n0_;have HO_5:=n1_;have HO_6:=n2_;have HO_8:=n3_;have HO494:=n4_;have HB:=n5_;clear n0_ n1_ n2_ n3_ n4_ n5_;(try clear hb);(try clear hb2);(try clear hk);(try clear hi);(try clear ho0))|(go_at_call 46;(with_reducible refine (impl_TrmArg.calls k4 _ _ t470 x9_4 t495 _ ?side1 ?side2 A54.out).mono ?_);(case side1=>exact qz19);(case side2=>exact (Kd.R_reads' HO_5.out).2.1);rintro e w66 ⟨v496,rfl,ho0,hb⟩;have n0_:=Aside0.mk (Kd.R_below qz9 hb);have n1_:=Aside0.mk (Kd.R_below qz7 hb);have n2_:=Aside0.mk (Kd.S_below qz10 hb);have n3_:=Aside0.mk (Kd.S_below qz11 hb);have n4_:=Aside0.mk (Kd.R_below qz20 hb);have n5_:=Aside0.mk (Kd.R_lower ho0 (below_size qz1));have n6_:=Aside0.mk (below_step qz1 hb);clear HO_4 HO_5 HO_6 HO_8 HO494 HB;have HO_4:=n0_;have HO_5:=n1_;have HO_6:=n2_;have HO_8:=n3_;have HO494:=n4_;have HO497:=n5_;have HB:=n6_;clear n0_ n1_ n2_ n3_ n4_ n5_ n6_;(try clear hb);(try clear hb2);(try clear hk);(try clear hi);(try clear ho0);obtain ⟨Ao67,co67,eo67⟩:=Kd.S_slice HO_8.out;subst eo67;obtain ⟨Ao68,co68,eo68⟩:=Kd.R_slice HO494.out;subst eo68;obtain ⟨Ao69,co69,eo69⟩:=Kd.R_slice HO497.out;subst eo69)|(go_at_call 31;(with_reducible refine (impl_SubUnify.calls k4 _ _ x8_4 _ _ t492 _ _ t495 t498 t499 _ ?side1 ?side2 ?side3 ?side4 ?side5 ?side6 A55.out).mono ?_);(case side1=>exact qz22);(case side2=>exact (Kd.S_reads' HO_8.out).2.1);(case side3=>exact qz30);(case side4=>exact (Kd.R_reads' HO494.out).2.1);(case side5=>exact qz29);(case side6=>exact (Kd.R_reads' HO497.out).2.1);rintro e w70 ⟨v500,rfl,ho0,hb⟩;have n0_:=Aside0.mk (Kd.R_below qz9 hb);have n1_:=Aside0.mk (Kd.R_below qz7 hb);have n2_:=Aside0.mk (Kd.S_below qz10 hb);have n3_:=Aside0.mk (Kd.S_below qz11 hb);have n4_:=Aside0.mk (Kd.R_below qz20 hb);have n5_:=Aside0.mk (Kd.R_below qz35 hb);have n6_:=Aside0.mk (Kd.S_lower ho0 (below_size qz1));have n7_:=Aside0.mk (below_step qz1 hb);clear HO_4 HO_5 HO_6 HO_8 HO494 HO497 HB;have HO_4:=n0_;have HO_5:=n1_;have HO_6:=n2_;have HO_8:=n3_;have HO494:=n4_;have HO497:=n5_;have HO501:=n6_;have HB:=n7_;clear n0_ n1_ n2_ n3_ n4_ n5_ n6_ n7_;(try clear hb);(try clear hb2);(try clear hk);(try clear hi);(try clear ho0))|(go_at_call 22;(with_reducible refine (laws_caOk.calls  t502 _ A64.out).mono ?_);rintro e w71 ⟨rfl,hb⟩;have n0_:=Aside0.mk (Kd.R_below qz9 hb);have n1_:=Aside0.mk (Kd.R_below qz7 hb);have n2_:=Aside0.mk (Kd.S_below qz10 hb);have n3_:=Aside0.mk (Kd.S_below qz11 hb);have n4_:=Aside0.mk (Kd.R_below qz20 hb);have n5_:=Aside0.mk (Kd.R_below qz35 hb);have n6_:=Aside0.mk (Kd.S_below qz72 hb);have n7_:=Aside0.mk (below_step qz1 hb);clear HO_4 HO_5 HO_6 HO_8 HO494 HO497 HO501 HB;have HO_4:=n0_;have HO_5:=n1_;have HO_6:=n2_;have HO_8:=n3_;have HO494:=n4_;have HO497:=n5_;have HO501:=n6_;have HB:=n7_;clear n0_ n1_ n2_ n3_ n4_ n5_ n6_ n7_;(try clear hb);(try clear hb2);(try clear hk);(try clear hi))))
                 go_ret
                 exact ⟨qz8,qz5⟩
               ·rw [if_neg c56] at H
                have c56b0:(t499 == 3)=false:=beq_eq_false_iff_ne.mpr c56
                have c56b1:(t499 != 3)=true:=bne_iff_ne.mpr c56
                by_cases c72:t499=1
                ·rw [if_pos c72] at H
                 have c72b0:(t499 == 1)=true:=beq_iff_eq.mpr c72
                 have c72b1:(t499 != 1)=false:=bne_eq_false_iff_eq.mpr c72
                 clear c72
                 have H':=Aside0.mk H
                 clear H
                 have p491:0≤(0:Int):=(by omega)
                 have q491:0<(t469.length:Int):=of_decide_eq_true qz6
                 obtain ⟨ad491,e491,hx491_0,hx491_1,hx491_2⟩:=at_T46 (Kd.R_reads' HO_4.out).2.2 0 p491 q491
                 cases e491
                 have qi491:(0<t469.length)=True:=eq_true (by omega)
                 (try rw [show ((0:Int)).toNat=0 from rfl] at hx491_0)
                 (try rw [show 0 * 3=0 from rfl] at hx491_0)
                 (try rw [Addr.add_zero'] at hx491_0)
                 (try rw [show ((0:Int)).toNat=0 from rfl] at hx491_1)
                 (try rw [show 0 * 3=0 from rfl] at hx491_1)
                 (try rw [Addr.add_zero'] at hx491_1)
                 (try rw [show ((0:Int)).toNat=0 from rfl] at hx491_2)
                 (try rw [show 0 * 3=0 from rfl] at hx491_2)
                 (try rw [Addr.add_zero'] at hx491_2)
                 replace p491:=eq_true p491
                 replace q491:=eq_true q491
                 go_wp2_with (first|(go_at_call 46;(with_reducible refine (impl_TrmArg.calls k4 _ _ t469 x9_4 t492 _ ?side1 ?side2 A53.out).mono ?_);(case side1=>exact qz13);(case side2=>exact (Kd.R_reads' HO_4.out).2.1);rintro e w73 ⟨v493,rfl,ho0,hb⟩;have n0_:=Aside0.mk (Kd.R_below qz9 hb);have n1_:=Aside0.mk (Kd.R_below qz7 hb);have n2_:=Aside0.mk (Kd.S_below qz10 hb);have n3_:=Aside0.mk (Kd.S_below qz11 hb);have n4_:=Aside0.mk (Kd.R_lower ho0 (below_size qz1));have n5_:=Aside0.mk (below_step qz1 hb);clear HO_4 HO_5 HO_6 HO_8 HB;have HO_4:=n0_;have HO_5:=n1_;have HO_6:=n2_;have HO_8:=n3_;have HO494:=n4_;have HB:=n5_;clear n0_ n1_ n2_ n3_ n4_ n5_;(try clear hb);(try clear hb2);(try clear hk);(try clear hi);(try clear ho0))|(go_at_call 46;(with_reducible refine (impl_TrmArg.calls k4 _ _ t470 x9_4 t495 _ ?side1 ?side2 A54.out).mono ?_);(case side1=>exact qz19);(case side2=>exact (Kd.R_reads' HO_5.out).2.1);rintro e w74 ⟨v496,rfl,ho0,hb⟩;have n0_:=Aside0.mk (Kd.R_below qz9 hb);have n1_:=Aside0.mk (Kd.R_below qz7 hb);have n2_:=Aside0.mk (Kd.S_below qz10 hb);have n3_:=Aside0.mk (Kd.S_below qz11 hb);have n4_:=Aside0.mk (Kd.R_below qz20 hb);have n5_:=Aside0.mk (Kd.R_lower ho0 (below_size qz1));have n6_:=Aside0.mk (below_step qz1 hb);clear HO_4 HO_5 HO_6 HO_8 HO494 HB;have HO_4:=n0_;have HO_5:=n1_;have HO_6:=n2_;have HO_8:=n3_;have HO494:=n4_;have HO497:=n5_;have HB:=n6_;clear n0_ n1_ n2_ n3_ n4_ n5_ n6_;(try clear hb);(try clear hb2);(try clear hk);(try clear hi);(try clear ho0);obtain ⟨Ao75,co75,eo75⟩:=Kd.S_slice HO_8.out;subst eo75;obtain ⟨Ao76,co76,eo76⟩:=Kd.R_slice HO494.out;subst eo76;obtain ⟨Ao77,co77,eo77⟩:=Kd.R_slice HO497.out;subst eo77)|(go_at_call 31;(with_reducible refine (impl_SubUnify.calls k4 _ _ x8_4 _ _ t492 _ _ t495 t498 t499 _ ?side1 ?side2 ?side3 ?side4 ?side5 ?side6 A55.out).mono ?_);(case side1=>exact qz22);(case side2=>exact (Kd.S_reads' HO_8.out).2.1);(case side3=>exact qz30);(case side4=>exact (Kd.R_reads' HO494.out).2.1);(case side5=>exact qz29);(case side6=>exact (Kd.R_reads' HO497.out).2.1);rintro e w78 ⟨v500,rfl,ho0,hb⟩;have n0_:=Aside0.mk (Kd.R_below qz9 hb);have n1_:=Aside0.mk (Kd.R_below qz7 hb);have n2_:=Aside0.mk (Kd.S_below qz10 hb);have n3_:=Aside0.mk (Kd.S_below qz11 hb);have n4_:=Aside0.mk (Kd.R_below qz20 hb);have n5_:=Aside0.mk (Kd.R_below qz35 hb);have n6_:=Aside0.mk (Kd.S_lower ho0 (below_size qz1));have n7_:=Aside0.mk (below_step qz1 hb);clear HO_4 HO_5 HO_6 HO_8 HO494 HO497 HB;have HO_4:=n0_;have HO_5:=n1_;have HO_6:=n2_;have HO_8:=n3_;have HO494:=n4_;have HO497:=n5_;have HO501:=n6_;have HB:=n7_;clear n0_ n1_ n2_ n3_ n4_ n5_ n6_ n7_;(try clear hb);(try clear hb2);(try clear hk);(try clear hi);(try clear ho0)))
                 repeat (go_quiet (first|(go_at_call 46;(with_reducible refine (impl_TrmArg.calls k4 _ _ t469 x9_4 t492 _ ?side1 ?side2 A53.out).mono ?_);(case side1=>exact qz13);(case side2=>exact (Kd.R_reads' HO_4.out).2.1);rintro e w73 ⟨v493,rfl,ho0,hb⟩;have n0_:=Aside0.mk (Kd.R_below qz9 hb);have n1_:=Aside0.mk (Kd.R_below qz7 hb);have n2_:=Aside0.mk (Kd.S_below qz10 hb);have n3_:=Aside0.mk (Kd.S_below qz11 hb);have n4_:=Aside0.mk (Kd.R_lower ho0 (below_size qz1));have n5_:=Aside0.mk (below_step qz1 hb);clear HO_4 HO_5 HO_6 HO_8 HB;have HO_4:=n0_;have HO_5:=n1_;have HO_6:=n2_;have HO_8:=n3_;have HO494:=n4_;have HB:=n5_;clear n0_ n1_ n2_ n3_ n4_ n5_;(try clear hb);(try clear hb2);(try clear hk);(try clear hi);(try clear ho0))|(go_at_call 46;(with_reducible refine (impl_TrmArg.calls k4 _ _ t470 x9_4 t495 _ ?side1 ?side2 A54.out).mono ?_);(case side1=>exact qz19);(case side2=>exact (Kd.R_reads' HO_5.out).2.1);rintro e w74 ⟨v496,rfl,ho0,hb⟩;have n0_:=Aside0.mk (Kd.R_below qz9 hb);have n1_:=Aside0.mk (Kd.R_below qz7 hb);have n2_:=Aside0.mk (Kd.S_below qz10 hb);have n3_:=Aside0.mk (Kd.S_below qz11 hb);have n4_:=Aside0.mk (Kd.R_below qz20 hb);have n5_:=Aside0.mk (Kd.R_lower ho0 (below_size qz1));have n6_:=Aside0.mk (below_step qz1 hb);clear HO_4 HO_5 HO_6 HO_8 HO494 HB;have HO_4:=n0_;have HO_5:=n1_;have HO_6:=n2_;have HO_8:=n3_;have HO494:=n4_;have HO497:=n5_;have HB:=n6_;clear n0_ n1_ n2_ n3_ n4_ n5_ n6_;(try clear hb);(try clear hb2);(try clear hk);(try clear hi);(try clear ho0);obtain ⟨Ao75,co75,eo75⟩:=Kd.S_slice HO_8.out;subst eo75;obtain ⟨Ao76,co76,eo76⟩:=Kd.R_slice HO494.out;subst eo76;obtain ⟨Ao77,co77,eo77⟩:=Kd.R_slice HO497.out;subst eo77)|(go_at_call 31;(with_reducible refine (impl_SubUnify.calls k4 _ _ x8_4 _ _ t492 _ _ t495 t498 t499 _ ?side1 ?side2 ?side3 ?side4 ?side5 ?side6 A55.out).mono ?_);(case side1=>exact qz22);(case side2=>exact (Kd.S_reads' HO_8.out).2.1);(case side3=>exact qz30);(case side4=>exact (Kd.R_reads' HO494.out).2.1);(case side5=>exact qz29);(case side6=>exact (Kd.R_reads' HO497.out).2.1);rintro e w78 ⟨v500,rfl,ho0,hb⟩;have n0_:=Aside0.mk (Kd.R_below qz9 hb);have n1_:=Aside0.mk (Kd.R_below qz7 hb);have n2_:=Aside0.mk (Kd.S_below qz10 hb);have n3_:=Aside0.mk (Kd.S_below qz11 hb);have n4_:=Aside0.mk (Kd.R_below qz20 hb);have n5_:=Aside0.mk (Kd.R_below qz35 hb);have n6_:=Aside0.mk (Kd.S_lower ho0 (below_size qz1));have n7_:=Aside0.mk (below_step qz1 hb);clear HO_4 HO_5 HO_6 HO_8 HO494 HO497 HB;have HO_4:=n0_;have HO_5:=n1_;have HO_6:=n2_;have HO_8:=n3_;have HO494:=n4_;have HO497:=n5_;have HO501:=n6_;have HB:=n7_;clear n0_ n1_ n2_ n3_ n4_ n5_ n6_ n7_;(try clear hb);(try clear hb2);(try clear hk);(try clear hi);(try clear ho0)));try go_wp2_with (first|(go_at_call 46;(with_reducible refine (impl_TrmArg.calls k4 _ _ t469 x9_4 t492 _ ?side1 ?side2 A53.out).mono ?_);(case side1=>exact qz13);(case side2=>exact (Kd.R_reads' HO_4.out).2.1);rintro e w73 ⟨v493,rfl,ho0,hb⟩;have n0_:=Aside0.mk (Kd.R_below qz9 hb);have n1_:=Aside0.mk (Kd.R_below qz7 hb);have n2_:=Aside0.mk (Kd.S_below qz10 hb);have n3_:=Aside0.mk (Kd.S_below qz11 hb);have n4_:=Aside0.mk (Kd.R_lower ho0 (below_size qz1));have n5_:=Aside0.mk (below_step qz1 hb);clear HO_4 HO_5 HO_6 HO_8 HB;have HO_4:=n0_;have HO_5:=n1_;have HO_6:=n2_;have HO_8:=n3_;have HO494:=n4_;have HB:=n5_;clear n0_ n1_ n2_ n3_ n4_ n5_;(try clear hb);(try clear hb2);(try clear hk);(try clear hi);(try clear ho0))|(go_at_call 46;(with_reducible refine (impl_TrmArg.calls k4 _ _ t470 x9_4 t495 _ ?side1 ?side2 A54.out).mono ?_);(case side1=>exact qz19);(case side2=>exact (Kd.R_reads' HO_5.out).2.1);rintro e w74 ⟨v496,rfl,ho0,hb⟩;have n0_:=Aside0.mk (Kd.R_below qz9 hb);have n1_:=Aside0.mk (Kd.R_below qz7 hb);have n2_:=Aside0.mk (Kd.S_below qz10 hb);have n3_:=Aside0.mk (Kd.S_below qz11 hb);have n4_:=Aside0.mk (Kd.R_below qz20 hb);have n5_:=Aside0.mk (Kd.R_lower ho0 (below_size qz1));have n6_:=Aside0.mk (below_step qz1 hb);clear HO_4 HO_5 HO_6 HO_8 HO494 HB;have HO_4:=n0_;have HO_5:=n1_;have HO_6:=n2_;have HO_8:=n3_;have HO494:=n4_;have HO497:=n5_;have HB:=n6_;clear n0_ n1_ n2_ n3_ n4_ n5_ n6_;(try clear hb);(try clear hb2);(try clear hk);(try clear hi);(try clear ho0);obtain ⟨Ao75,co75,eo75⟩:=Kd.S_slice HO_8.out;subst eo75;obtain ⟨Ao76,co76,eo76⟩:=Kd.R_slice HO494.out;subst eo76;obtain ⟨Ao77,co77,eo77⟩:=Kd.R_slice HO497.out;subst eo77)|(go_at_call 31;(with_reducible refine (impl_SubUnify.calls k4 _ _ x8_4 _ _ t492 _ _ t495 t498 t499 _ ?side1 ?side2 ?side3 ?side4 ?side5 ?side6 A55.out).mono ?_);(case side1=>exact qz22);(case side2=>exact (Kd.S_reads' HO_8.out).2.1);(case side3=>exact qz30);(case side4=>exact (Kd.R_reads' HO494.out).2.1);(case side5=>exact qz29);(case side6=>exact (Kd.R_reads' HO497.out).2.1);rintro e w78 ⟨v500,rfl,ho0,hb⟩;have n0_:=Aside0.mk (Kd.R_below qz9 hb);have n1_:=Aside0.mk (Kd.R_below qz7 hb);have n2_:=Aside0.mk (Kd.S_below qz10 hb);have n3_:=Aside0.mk (Kd.S_below qz11 hb);have n4_:=Aside0.mk (Kd.R_below qz20 hb);have n5_:=Aside0.mk (Kd.R_below qz35 hb);have n6_:=Aside0.mk (Kd.S_lower ho0 (below_size qz1));have n7_:=Aside0.mk (below_step qz1 hb);clear HO_4 HO_5 HO_6 HO_8 HO494 HO497 HB;have HO_4:=n0_;have HO_5:=n1_;have HO_6:=n2_;have HO_8:=n3_;have HO494:=n4_;have HO497:=n5_;have HO501:=n6_;have HB:=n7_;clear n0_ n1_ n2_ n3_ n4_ n5_ n6_ n7_;(try clear hb);(try clear hb2);(try clear hk);(try clear hi);(try clear ho0))))
                 go_roundg k4
                 case measure=>have:=HJ3.out;have:=HJ34.out;have:=HJ44.out;have:=HK4.out;omega
                 case rel=>exact ⟨(t498),(wrap64 (x9_4+1)),qz12,H',⟨by have:=HJ3.out;have:=HJ34.out;have:=HJ44.out;have:=HK4.out;omega⟩,⟨qz9⟩,⟨qz7⟩,⟨qz10⟩,⟨qz72⟩,⟨qz5⟩⟩
                ·rw [if_neg c72] at H
                 have c72b0:(t499 == 1)=false:=beq_eq_false_iff_ne.mpr c72
                 have c72b1:(t499 != 1)=true:=bne_iff_ne.mpr c72
                 obtain rfl:=Option.some.inj H
                 have p491:0≤(0:Int):=(by omega)
                 have q491:0<(t469.length:Int):=of_decide_eq_true qz6
                 obtain ⟨ad491,e491,hx491_0,hx491_1,hx491_2⟩:=at_T46 (Kd.R_reads' HO_4.out).2.2 0 p491 q491
                 cases e491
                 have qi491:(0<t469.length)=True:=eq_true (by omega)
                 (try rw [show ((0:Int)).toNat=0 from rfl] at hx491_0)
                 (try rw [show 0 * 3=0 from rfl] at hx491_0)
                 (try rw [Addr.add_zero'] at hx491_0)
                 (try rw [show ((0:Int)).toNat=0 from rfl] at hx491_1)
                 (try rw [show 0 * 3=0 from rfl] at hx491_1)
                 (try rw [Addr.add_zero'] at hx491_1)
                 (try rw [show ((0:Int)).toNat=0 from rfl] at hx491_2)
                 (try rw [show 0 * 3=0 from rfl] at hx491_2)
                 (try rw [Addr.add_zero'] at hx491_2)
                 replace p491:=eq_true p491
                 replace q491:=eq_true q491
                 go_wp2_with (first|(go_at_call 46;(with_reducible refine (impl_TrmArg.calls k4 _ _ t469 x9_4 t492 _ ?side1 ?side2 A53.out).mono ?_);(case side1=>exact qz13);(case side2=>exact (Kd.R_reads' HO_4.out).2.1);rintro e w79 ⟨v493,rfl,ho0,hb⟩;have n0_:=Aside0.mk (Kd.R_below qz9 hb);have n1_:=Aside0.mk (Kd.R_below qz7 hb);have n2_:=Aside0.mk (Kd.S_below qz10 hb);have n3_:=Aside0.mk (Kd.S_below qz11 hb);have n4_:=Aside0.mk (Kd.R_lower ho0 (below_size qz1));have n5_:=Aside0.mk (below_step qz1 hb);clear HO_4 HO_5 HO_6 HO_8 HB;have HO_4:=n0_;have HO_5:=n1_;have HO_6:=n2_;have HO_8:=n3_;have HO494:=n4_;have HB:=n5_;clear n0_ n1_ n2_ n3_ n4_ n5_;(try clear hb);(try clear hb2);(try clear hk);(try clear hi);(try clear ho0))|(go_at_call 46;(with_reducible refine (impl_TrmArg.calls k4 _ _ t470 x9_4 t495 _ ?side1 ?side2 A54.out).mono ?_);(case side1=>exact qz19);(case side2=>exact (Kd.R_reads' HO_5.out).2.1);rintro e w80 ⟨v496,rfl,ho0,hb⟩;have n0_:=Aside0.mk (Kd.R_below qz9 hb);have n1_:=Aside0.mk (Kd.R_below qz7 hb);have n2_:=Aside0.mk (Kd.S_below qz10 hb);have n3_:=Aside0.mk (Kd.S_below qz11 hb);have n4_:=Aside0.mk (Kd.R_below qz20 hb);have n5_:=Aside0.mk (Kd.R_lower ho0 (below_size qz1));have n6_:=Aside0.mk (below_step qz1 hb);clear HO_4 HO_5 HO_6 HO_8 HO494 HB;have HO_4:=n0_;have HO_5:=n1_;have HO_6:=n2_;have HO_8:=n3_;have HO494:=n4_;have HO497:=n5_;have HB:=n6_;clear n0_ n1_ n2_ n3_ n4_ n5_ n6_;(try clear hb);(try clear hb2);(try clear hk);(try clear hi);(try clear ho0);obtain ⟨Ao81,co81,eo81⟩:=Kd.S_slice HO_8.out;subst eo81;obtain ⟨Ao82,co82,eo82⟩:=Kd.R_slice HO494.out;subst eo82;obtain ⟨Ao83,co83,eo83⟩:=Kd.R_slice HO497.out;subst eo83)|(go_at_call 31;(with_reducible refine (impl_SubUnify.calls k4 _ _ x8_4 _ _ t492 _ _ t495 t498 t499 _ ?side1 ?side2 ?side3 ?side4 ?side5 ?side6 A55.out).mono ?_);(case side1=>exact qz22);(case side2=>exact (Kd.S_reads' HO_8.out).2.1);(case side3=>exact qz30);(case side4=>exact (Kd.R_reads' HO494.out).2.1);(case side5=>exact qz29);(case side6=>exact (Kd.R_reads' HO497.out).2.1);rintro e w84 ⟨v500,rfl,ho0,hb⟩;have n0_:=Aside0.mk (Kd.R_below qz9 hb);have n1_:=Aside0.mk (Kd.R_below qz7 hb);have n2_:=Aside0.mk (Kd.S_below qz10 hb);have n3_:=Aside0.mk (Kd.S_below qz11 hb);have n4_:=Aside0.mk (Kd.R_below qz20 hb);have n5_:=Aside0.mk (Kd.R_below qz35 hb);have n6_:=Aside0.mk (Kd.S_lower ho0 (below_size qz1));have n7_:=Aside0.mk (below_step qz1 hb);clear HO_4 HO_5 HO_6 HO_8 HO494 HO497 HB;have HO_4:=n0_;have HO_5:=n1_;have HO_6:=n2_;have HO_8:=n3_;have HO494:=n4_;have HO497:=n5_;have HO501:=n6_;have HB:=n7_;clear n0_ n1_ n2_ n3_ n4_ n5_ n6_ n7_;(try clear hb);(try clear hb2);(try clear hk);(try clear hi);(try clear ho0)))
                 repeat (go_quiet (first|(go_at_call 46;(with_reducible refine (impl_TrmArg.calls k4 _ _ t469 x9_4 t492 _ ?side1 ?side2 A53.out).mono ?_);(case side1=>exact qz13);(case side2=>exact (Kd.R_reads' HO_4.out).2.1);rintro e w79 ⟨v493,rfl,ho0,hb⟩;have n0_:=Aside0.mk (Kd.R_below qz9 hb);have n1_:=Aside0.mk (Kd.R_below qz7 hb);have n2_:=Aside0.mk (Kd.S_below qz10 hb);have n3_:=Aside0.mk (Kd.S_below qz11 hb);have n4_:=Aside0.mk (Kd.R_lower ho0 (below_size qz1));have n5_:=Aside0.mk (below_step qz1 hb);clear HO_4 HO_5 HO_6 HO_8 HB;have HO_4:=n0_;have HO_5:=n1_;have HO_6:=n2_;have HO_8:=n3_;have HO494:=n4_;have HB:=n5_;clear n0_ n1_ n2_ n3_ n4_ n5_;(try clear hb);(try clear hb2);(try clear hk);(try clear hi);(try clear ho0))|(go_at_call 46;(with_reducible refine (impl_TrmArg.calls k4 _ _ t470 x9_4 t495 _ ?side1 ?side2 A54.out).mono ?_);(case side1=>exact qz19);(case side2=>exact (Kd.R_reads' HO_5.out).2.1);rintro e w80 ⟨v496,rfl,ho0,hb⟩;have n0_:=Aside0.mk (Kd.R_below qz9 hb);have n1_:=Aside0.mk (Kd.R_below qz7 hb);have n2_:=Aside0.mk (Kd.S_below qz10 hb);have n3_:=Aside0.mk (Kd.S_below qz11 hb);have n4_:=Aside0.mk (Kd.R_below qz20 hb);have n5_:=Aside0.mk (Kd.R_lower ho0 (below_size qz1));have n6_:=Aside0.mk (below_step qz1 hb);clear HO_4 HO_5 HO_6 HO_8 HO494 HB;have HO_4:=n0_;have HO_5:=n1_;have HO_6:=n2_;have HO_8:=n3_;have HO494:=n4_;have HO497:=n5_;have HB:=n6_;clear n0_ n1_ n2_ n3_ n4_ n5_ n6_;(try clear hb);(try clear hb2);(try clear hk);(try clear hi);(try clear ho0);obtain ⟨Ao81,co81,eo81⟩:=Kd.S_slice HO_8.out;subst eo81;obtain ⟨Ao82,co82,eo82⟩:=Kd.R_slice HO494.out;subst eo82;obtain ⟨Ao83,co83,eo83⟩:=Kd.R_slice HO497.out;subst eo83)|(go_at_call 31;(with_reducible refine (impl_SubUnify.calls k4 _ _ x8_4 _ _ t492 _ _ t495 t498 t499 _ ?side1 ?side2 ?side3 ?side4 ?side5 ?side6 A55.out).mono ?_);(case side1=>exact qz22);(case side2=>exact (Kd.S_reads' HO_8.out).2.1);(case side3=>exact qz30);(case side4=>exact (Kd.R_reads' HO494.out).2.1);(case side5=>exact qz29);(case side6=>exact (Kd.R_reads' HO497.out).2.1);rintro e w84 ⟨v500,rfl,ho0,hb⟩;have n0_:=Aside0.mk (Kd.R_below qz9 hb);have n1_:=Aside0.mk (Kd.R_below qz7 hb);have n2_:=Aside0.mk (Kd.S_below qz10 hb);have n3_:=Aside0.mk (Kd.S_below qz11 hb);have n4_:=Aside0.mk (Kd.R_below qz20 hb);have n5_:=Aside0.mk (Kd.R_below qz35 hb);have n6_:=Aside0.mk (Kd.S_lower ho0 (below_size qz1));have n7_:=Aside0.mk (below_step qz1 hb);clear HO_4 HO_5 HO_6 HO_8 HO494 HO497 HB;have HO_4:=n0_;have HO_5:=n1_;have HO_6:=n2_;have HO_8:=n3_;have HO494:=n4_;have HO497:=n5_;have HO501:=n6_;have HB:=n7_;clear n0_ n1_ n2_ n3_ n4_ n5_ n6_ n7_;(try clear hb);(try clear hb2);(try clear hk);(try clear hi);(try clear ho0)));try go_wp2_with (first|(go_at_call 46;(with_reducible refine (impl_TrmArg.calls k4 _ _ t469 x9_4 t492 _ ?side1 ?side2 A53.out).mono ?_);(case side1=>exact qz13);(case side2=>exact (Kd.R_reads' HO_4.out).2.1);rintro e w79 ⟨v493,rfl,ho0,hb⟩;have n0_:=Aside0.mk (Kd.R_below qz9 hb);have n1_:=Aside0.mk (Kd.R_below qz7 hb);have n2_:=Aside0.mk (Kd.S_below qz10 hb);have n3_:=Aside0.mk (Kd.S_below qz11 hb);have n4_:=Aside0.mk (Kd.R_lower ho0 (below_size qz1));have n5_:=Aside0.mk (below_step qz1 hb);clear HO_4 HO_5 HO_6 HO_8 HB;have HO_4:=n0_;have HO_5:=n1_;have HO_6:=n2_;have HO_8:=n3_;have HO494:=n4_;have HB:=n5_;clear n0_ n1_ n2_ n3_ n4_ n5_;(try clear hb);(try clear hb2);(try clear hk);(try clear hi);(try clear ho0))|(go_at_call 46;(with_reducible refine (impl_TrmArg.calls k4 _ _ t470 x9_4 t495 _ ?side1 ?side2 A54.out).mono ?_);(case side1=>exact qz19);(case side2=>exact (Kd.R_reads' HO_5.out).2.1);rintro e w80 ⟨v496,rfl,ho0,hb⟩;have n0_:=Aside0.mk (Kd.R_below qz9 hb);have n1_:=Aside0.mk (Kd.R_below qz7 hb);have n2_:=Aside0.mk (Kd.S_below qz10 hb);have n3_:=Aside0.mk (Kd.S_below qz11 hb);have n4_:=Aside0.mk (Kd.R_below qz20 hb);have n5_:=Aside0.mk (Kd.R_lower ho0 (below_size qz1));have n6_:=Aside0.mk (below_step qz1 hb);clear HO_4 HO_5 HO_6 HO_8 HO494 HB;have HO_4:=n0_;have HO_5:=n1_;have HO_6:=n2_;have HO_8:=n3_;have HO494:=n4_;have HO497:=n5_;have HB:=n6_;clear n0_ n1_ n2_ n3_ n4_ n5_ n6_;(try clear hb);(try clear hb2);(try clear hk);(try clear hi);(try clear ho0);obtain ⟨Ao81,co81,eo81⟩:=Kd.S_slice HO_8.out;subst eo81;obtain ⟨Ao82,co82,eo82⟩:=Kd.R_slice HO494.out;subst eo82;obtain ⟨Ao83,co83,eo83⟩:=Kd.R_slice HO497.out;subst eo83)|(go_at_call 31;(with_reducible refine (impl_SubUnify.calls k4 _ _ x8_4 _ _ t492 _ _ t495 t498 t499 _ ?side1 ?side2 ?side3 ?side4 ?side5 ?side6 A55.out).mono ?_);(case side1=>exact qz22);(case side2=>exact (Kd.S_reads' HO_8.out).2.1);(case side3=>exact qz30);(case side4=>exact (Kd.R_reads' HO494.out).2.1);(case side5=>exact qz29);(case side6=>exact (Kd.R_reads' HO497.out).2.1);rintro e w84 ⟨v500,rfl,ho0,hb⟩;have n0_:=Aside0.mk (Kd.R_below qz9 hb);have n1_:=Aside0.mk (Kd.R_below qz7 hb);have n2_:=Aside0.mk (Kd.S_below qz10 hb);have n3_:=Aside0.mk (Kd.S_below qz11 hb);have n4_:=Aside0.mk (Kd.R_below qz20 hb);have n5_:=Aside0.mk (Kd.R_below qz35 hb);have n6_:=Aside0.mk (Kd.S_lower ho0 (below_size qz1));have n7_:=Aside0.mk (below_step qz1 hb);clear HO_4 HO_5 HO_6 HO_8 HO494 HO497 HB;have HO_4:=n0_;have HO_5:=n1_;have HO_6:=n2_;have HO_8:=n3_;have HO494:=n4_;have HO497:=n5_;have HO501:=n6_;have HB:=n7_;clear n0_ n1_ n2_ n3_ n4_ n5_ n6_ n7_;(try clear hb);(try clear hb2);(try clear hk);(try clear hi);(try clear ho0))))
                 go_ret
                 exact ⟨qz8,qz5⟩
              ·rw [if_neg c52] at H
               have c52b0:decide (x9_4<((rd_T46 t469 0).f1))=false:=decide_eq_false c52
               clear c52
               by_cases c85:t483=1
               ·rw [if_pos c85] at H
                have c85b0:(t483 == 1)=true:=beq_iff_eq.mpr c85
                have c85b1:(t483 != 1)=false:=bne_eq_false_iff_eq.mpr c85
                clear c85
                replace H:=Option.bind_eq_some_iff.mp H
                obtain ⟨⟨t503,t504⟩,A860,H⟩:=H
                try dsimp only at H
                have A86:=Aside0.mk A860
                clear A860
                replace H:=Option.bind_eq_some_iff.mp H
                obtain ⟨⟨t507,t508⟩,A870,H⟩:=H
                try dsimp only at H
                have A87:=Aside0.mk A870
                clear A870
                replace H:=Option.bind_eq_some_iff.mp H
                obtain ⟨t511,A880,H⟩:=H
                try dsimp only at H
                have A88:=Aside0.mk A880
                clear A880
                replace H:=Option.bind_eq_some_iff.mp H
                obtain ⟨t514,A890,H⟩:=H
                try dsimp only at H
                have A89:=Aside0.mk A890
                clear A890
                replace H:=Option.bind_eq_some_iff.mp H
                obtain ⟨t517,A900,H⟩:=H
                try dsimp only at H
                have A90:=Aside0.mk A900
                clear A900
                obtain rfl:=Option.some.inj H
                have p491:0≤(0:Int):=(by omega)
                have q491:0<(t469.length:Int):=of_decide_eq_true qz6
                obtain ⟨ad491,e491,hx491_0,hx491_1,hx491_2⟩:=at_T46 (Kd.R_reads' HO_4.out).2.2 0 p491 q491
                cases e491
                have qi491:(0<t469.length)=True:=eq_true (by omega)
                (try rw [show ((0:Int)).toNat=0 from rfl] at hx491_0)
                (try rw [show 0 * 3=0 from rfl] at hx491_0)
                (try rw [Addr.add_zero'] at hx491_0)
                (try rw [show ((0:Int)).toNat=0 from rfl] at hx491_1)
                (try rw [show 0 * 3=0 from rfl] at hx491_1)
                (try rw [Addr.add_zero'] at hx491_1)
                (try rw [show ((0:Int)).toNat=0 from rfl] at hx491_2)
                (try rw [show 0 * 3=0 from rfl] at hx491_2)
                (try rw [Addr.add_zero'] at hx491_2)
                replace p491:=eq_true p491
                replace q491:=eq_true q491
                obtain ⟨Ao91,co91,eo91⟩:=Kd.S_slice HO_6.out
                subst eo91
                go_wp2_with (first|(go_at_call 36;(with_reducible refine (impl_SubFull.calls k4 _ _ t482 _ _ t469 t503 t504 _ ?side1 ?side2 ?side3 ?side4 A86.out).mono ?_);(case side1=>exact qz68);(case side2=>exact (Kd.S_reads' HO_6.out).2.1);(case side3=>exact qz13);(case side4=>exact (Kd.R_reads' HO_4.out).2.1);rintro e w92 ⟨v505,rfl,ho0,hb⟩;have n0_:=Aside0.mk (Kd.R_below qz9 hb);have n1_:=Aside0.mk (Kd.R_below qz7 hb);have n2_:=Aside0.mk (Kd.S_below qz10 hb);have n3_:=Aside0.mk (Kd.S_below qz11 hb);have n4_:=Aside0.mk (Kd.R_lower ho0 (below_size qz1));have n5_:=Aside0.mk (below_step qz1 hb);clear HO_4 HO_5 HO_6 HO_8 HB;have HO_4:=n0_;have HO_5:=n1_;have HO_6:=n2_;have HO_8:=n3_;have HO506:=n4_;have HB:=n5_;clear n0_ n1_ n2_ n3_ n4_ n5_;(try clear hb);(try clear hb2);(try clear hk);(try clear hi);(try clear ho0);obtain ⟨Ao93,co93,eo93⟩:=Kd.S_slice HO_8.out;subst eo93)|(go_at_call 36;(with_reducible refine (impl_SubFull.calls k4 _ _ x8_4 _ _ t469 t507 t508 _ ?side1 ?side2 ?side3 ?side4 A87.out).mono ?_);(case side1=>exact qz22);(case side2=>exact (Kd.S_reads' HO_8.out).2.1);(case side3=>exact qz13);(case side4=>exact (Kd.R_reads' HO_4.out).2.1);rintro e w94 ⟨v509,rfl,ho0,hb⟩;have n0_:=Aside0.mk (Kd.R_below qz9 hb);have n1_:=Aside0.mk (Kd.R_below qz7 hb);have n2_:=Aside0.mk (Kd.S_below qz10 hb);have n3_:=Aside0.mk (Kd.S_below qz11 hb);have n4_:=Aside0.mk (Kd.R_below qz48 hb);have n5_:=Aside0.mk (Kd.R_lower ho0 (below_size qz1));have n6_:=Aside0.mk (below_step qz1 hb);clear HO_4 HO_5 HO_6 HO_8 HO506 HB;have HO_4:=n0_;have HO_5:=n1_;have HO_6:=n2_;have HO_8:=n3_;have HO506:=n4_;have HO510:=n5_;have HB:=n6_;clear n0_ n1_ n2_ n3_ n4_ n5_ n6_;(try clear hb);(try clear hb2);(try clear hk);(try clear hi);(try clear ho0);obtain ⟨Ao95,co95,eo95⟩:=Kd.R_slice HO506.out;subst eo95)|(go_at_call 45;(with_reducible refine (impl_TrmCanon.calls k4 _ _ t503 t511 _ ?side1 ?side2 A88.out).mono ?_);(case side1=>exact qz66);(case side2=>exact (Kd.R_reads' HO506.out).2.1);rintro e w96 ⟨v512,rfl,ho0,hb⟩;have n0_:=Aside0.mk (Kd.R_below qz9 hb);have n1_:=Aside0.mk (Kd.R_below qz7 hb);have n2_:=Aside0.mk (Kd.S_below qz10 hb);have n3_:=Aside0.mk (Kd.S_below qz11 hb);have n4_:=Aside0.mk (Kd.R_below qz48 hb);have n5_:=Aside0.mk (Kd.R_below qz56 hb);have n6_:=Aside0.mk (Kd.R_lower ho0 (below_size qz1));have n7_:=Aside0.mk (below_step qz1 hb);clear HO_4 HO_5 HO_6 HO_8 HO506 HO510 HB;have HO_4:=n0_;have HO_5:=n1_;have HO_6:=n2_;have HO_8:=n3_;have HO506:=n4_;have HO510:=n5_;have HO513:=n6_;have HB:=n7_;clear n0_ n1_ n2_ n3_ n4_ n5_ n6_ n7_;(try clear hb);(try clear hb2);(try clear hk);(try clear hi);(try clear ho0);obtain ⟨Ao97,co97,eo97⟩:=Kd.R_slice HO510.out;subst eo97)|(go_at_call 45;(with_reducible refine (impl_TrmCanon.calls k4 _ _ t507 t514 _ ?side1 ?side2 A89.out).mono ?_);(case side1=>exact qz65);(case side2=>exact (Kd.R_reads' HO510.out).2.1);rintro e w98 ⟨v515,rfl,ho0,hb⟩;have n0_:=Aside0.mk (Kd.R_below qz9 hb);have n1_:=Aside0.mk (Kd.R_below qz7 hb);have n2_:=Aside0.mk (Kd.S_below qz10 hb);have n3_:=Aside0.mk (Kd.S_below qz11 hb);have n4_:=Aside0.mk (Kd.R_below qz48 hb);have n5_:=Aside0.mk (Kd.R_below qz56 hb);have n6_:=Aside0.mk (Kd.R_below qz77 hb);have n7_:=Aside0.mk (Kd.R_lower ho0 (below_size qz1));have n8_:=Aside0.mk (below_step qz1 hb);clear HO_4 HO_5 HO_6 HO_8 HO506 HO510 HO513 HB;have HO_4:=n0_;have HO_5:=n1_;have HO_6:=n2_;have HO_8:=n3_;have HO506:=n4_;have HO510:=n5_;have HO513:=n6_;have HO516:=n7_;have HB:=n8_;clear n0_ n1_ n2_ n3_ n4_ n5_ n6_ n7_ n8_;(try clear hb);(try clear hb2);(try clear hk);(try clear hi);(try clear ho0);obtain ⟨Ao99,co99,eo99⟩:=Kd.R_slice HO513.out;subst eo99;obtain ⟨Ao100,co100,eo100⟩:=Kd.R_slice HO516.out;subst eo100)|(go_at_call 20;(with_reducible refine (laws_caTerm.calls k4 _ _ t511 _ _ t514 t517 _ ?side1 ?side2 ?side3 ?side4 A90.out).mono ?_);(case side1=>exact qz64);(case side2=>exact (Kd.R_reads' HO513.out).2.1);(case side3=>exact qz63);(case side4=>exact (Kd.R_reads' HO516.out).2.1);rintro e w' ⟨rfl,⟨nd,rfl⟩⟩;(try first|exact ⟨rfl,_,World.drewN_drewN _ _ _⟩|exact ⟨rfl,_,Eq.trans (World.drewN_drewN _ _ _) (congrArg (World.drewN _) (Nat.add_assoc _ _ _))⟩)))
                repeat (go_quiet (first|(go_at_call 36;(with_reducible refine (impl_SubFull.calls k4 _ _ t482 _ _ t469 t503 t504 _ ?side1 ?side2 ?side3 ?side4 A86.out).mono ?_);(case side1=>exact qz68);(case side2=>exact (Kd.S_reads' HO_6.out).2.1);(case side3=>exact qz13);(case side4=>exact (Kd.R_reads' HO_4.out).2.1);rintro e w92 ⟨v505,rfl,ho0,hb⟩;have n0_:=Aside0.mk (Kd.R_below qz9 hb);have n1_:=Aside0.mk (Kd.R_below qz7 hb);have n2_:=Aside0.mk (Kd.S_below qz10 hb);have n3_:=Aside0.mk (Kd.S_below qz11 hb);have n4_:=Aside0.mk (Kd.R_lower ho0 (below_size qz1));have n5_:=Aside0.mk (below_step qz1 hb);clear HO_4 HO_5 HO_6 HO_8 HB;have HO_4:=n0_;have HO_5:=n1_;have HO_6:=n2_;have HO_8:=n3_;have HO506:=n4_;have HB:=n5_;clear n0_ n1_ n2_ n3_ n4_ n5_;(try clear hb);(try clear hb2);(try clear hk);(try clear hi);(try clear ho0);obtain ⟨Ao93,co93,eo93⟩:=Kd.S_slice HO_8.out;subst eo93)|(go_at_call 36;(with_reducible refine (impl_SubFull.calls k4 _ _ x8_4 _ _ t469 t507 t508 _ ?side1 ?side2 ?side3 ?side4 A87.out).mono ?_);(case side1=>exact qz22);(case side2=>exact (Kd.S_reads' HO_8.out).2.1);(case side3=>exact qz13);(case side4=>exact (Kd.R_reads' HO_4.out).2.1);rintro e w94 ⟨v509,rfl,ho0,hb⟩;have n0_:=Aside0.mk (Kd.R_below qz9 hb);have n1_:=Aside0.mk (Kd.R_below qz7 hb);have n2_:=Aside0.mk (Kd.S_below qz10 hb);have n3_:=Aside0.mk (Kd.S_below qz11 hb);have n4_:=Aside0.mk (Kd.R_below qz48 hb);have n5_:=Aside0.mk (Kd.R_lower ho0 (below_size qz1));have n6_:=Aside0.mk (below_step qz1 hb);clear HO_4 HO_5 HO_6 HO_8 HO506 HB;have HO_4:=n0_;have HO_5:=n1_;have HO_6:=n2_;have HO_8:=n3_;have HO506:=n4_;have HO510:=n5_;have HB:=n6_;clear n0_ n1_ n2_ n3_ n4_ n5_ n6_;(try clear hb);(try clear hb2);(try clear hk);(try clear hi);(try clear ho0);obtain ⟨Ao95,co95,eo95⟩:=Kd.R_slice HO506.out;subst eo95)|(go_at_call 45;(with_reducible refine (impl_TrmCanon.calls k4 _ _ t503 t511 _ ?side1 ?side2 A88.out).mono ?_);(case side1=>exact qz66);(case side2=>exact (Kd.R_reads' HO506.out).2.1);rintro e w96 ⟨v512,rfl,ho0,hb⟩;have n0_:=Aside0.mk (Kd.R_below qz9 hb);have n1_:=Aside0.mk (Kd.R_below qz7 hb);have n2_:=Aside0.mk (Kd.S_below qz10 hb);have n3_:=Aside0.mk (Kd.S_below qz11 hb);have n4_:=Aside0.mk (Kd.R_below qz48 hb);have n5_:=Aside0.mk (Kd.R_below qz56 hb);have n6_:=Aside0.mk (Kd.R_lower ho0 (below_size qz1));have n7_:=Aside0.mk (below_step qz1 hb);clear HO_4 HO_5 HO_6 HO_8 HO506 HO510 HB;have HO_4:=n0_;have HO_5:=n1_;have HO_6:=n2_;have HO_8:=n3_;have HO506:=n4_;have HO510:=n5_;have HO513:=n6_;have HB:=n7_;clear n0_ n1_ n2_ n3_ n4_ n5_ n6_ n7_;(try clear hb);(try clear hb2);(try clear hk);(try clear hi);(try clear ho0);obtain ⟨Ao97,co97,eo97⟩:=Kd.R_slice HO510.out;subst eo97)|(go_at_call 45;(with_reducible refine (impl_TrmCanon.calls k4 _ _ t507 t514 _ ?side1 ?side2 A89.out).mono ?_);(case side1=>exact qz65);(case side2=>exact (Kd.R_reads' HO510.out).2.1);rintro e w98 ⟨v515,rfl,ho0,hb⟩;have n0_:=Aside0.mk (Kd.R_below qz9 hb);have n1_:=Aside0.mk (Kd.R_below qz7 hb);have n2_:=Aside0.mk (Kd.S_below qz10 hb);have n3_:=Aside0.mk (Kd.S_below qz11 hb);have n4_:=Aside0.mk (Kd.R_below qz48 hb);have n5_:=Aside0.mk (Kd.R_below qz56 hb);have n6_:=Aside0.mk (Kd.R_below qz77 hb);have n7_:=Aside0.mk (Kd.R_lower ho0 (below_size qz1));have n8_:=Aside0.mk (below_step qz1 hb);clear HO_4 HO_5 HO_6 HO_8 HO506 HO510 HO513 HB;have HO_4:=n0_;have HO_5:=n1_;have HO_6:=n2_;have HO_8:=n3_;have HO506:=n4_;have HO510:=n5_;have HO513:=n6_;have HO516:=n7_;have HB:=n8_;clear n0_ n1_ n2_ n3_ n4_ n5_ n6_ n7_ n8_;(try clear hb);(try clear hb2);(try clear hk);(try clear hi);(try clear ho0);obtain ⟨Ao99,co99,eo99⟩:=Kd.R_slice HO513.out;subst eo99;obtain ⟨Ao100,co100,eo100⟩:=Kd.R_slice HO516.out;subst eo100)|(go_at_call 20;(with_reducible refine (laws_caTerm.calls k4 _ _ t511 _ _ t514 t517 _ ?side1 ?side2 ?side3 ?side4 A90.out).mono ?_);(case side1=>exact qz64);(case side2=>exact (Kd.R_reads' HO513.out).2.1);(case side3=>exact qz63);(case side4=>exact (Kd.R_reads' HO516.out).2.1);rintro e w' ⟨rfl,⟨nd,rfl⟩⟩;(try first|exact ⟨rfl,_,World.drewN_drewN _ _ _⟩|exact ⟨rfl,_,Eq.trans (World.drewN_drewN _ _ _) (congrArg (World.drewN _) (Nat.add_assoc _ _ _))⟩)));try go_wp2_with (first|(go_at_call 36;(with_reducible refine (impl_SubFull.calls k4 _ _ t482 _ _ t469 t503 t504 _ ?side1 ?side2 ?side3 ?side4 A86.out).mono ?_);(case side1=>exact qz68);(case side2=>exact (Kd.S_reads' HO_6.out).2.1);(case side3=>exact qz13);(case side4=>exact (Kd.R_reads' HO_4.out).2.1);rintro e w92 ⟨v505,rfl,ho0,hb⟩;have n0_:=Aside0.mk (Kd.R_below qz9 hb);have n1_:=Aside0.mk (Kd.R_below qz7 hb);have n2_:=Aside0.mk (Kd.S_below qz10 hb);have n3_:=Aside0.mk (Kd.S_below qz11 hb);have n4_:=Aside0.mk (Kd.R_lower ho0 (below_size qz1));have n5_:=Aside0.mk (below_step qz1 hb);clear HO_4 HO_5 HO_6 HO_8 HB;have HO_4:=n0_;have HO_5:=n1_;have HO_6:=n2_;have HO_8:=n3_;have HO506:=n4_;have HB:=n5_;clear n0_ n1_ n2_ n3_ n4_ n5_;(try clear hb);(try clear hb2);(try clear hk);(try clear hi);(try clear ho0);obtain ⟨Ao93,co93,eo93⟩:=Kd.S_slice HO_8.out;subst eo93)|(go_at_call 36;(with_reducible refine (impl_SubFull.calls k4 _ _ x8_4 _ _ t469 t507 t508 _ ?side1 ?side2 ?side3 ?side4 A87.out).mono ?_);(case side1=>exact qz22);(case side2=>exact (Kd.S_reads' HO_8.out).2.1);(case side3=>exact qz13);(case side4=>exact (Kd.R_reads' HO_4.out).2.1);rintro e w94 ⟨v509,rfl,ho0,hb⟩;have n0_:=Aside0.mk (Kd.R_below qz9 hb);have n1_:=Aside0.mk (Kd.R_below qz7 hb);have n2_:=Aside0.mk (Kd.S_below qz10 hb);have n3_:=Aside0.mk (Kd.S_below qz11 hb);have n4_:=Aside0.mk (Kd.R_below qz48 hb);have n5_:=Aside0.mk (Kd.R_lower ho0 (below_size qz1));have n6_:=Aside0.mk (below_step qz1 hb);clear HO_4 HO_5 HO_6 HO_8 HO506 HB;have HO_4:=n0_;have HO_5:=n1_;have HO_6:=n2_;have HO_8:=n3_;have HO506:=n4_;have HO510:=n5_;have HB:=n6_;clear n0_ n1_ n2_ n3_ n4_ n5_ n6_;(try clear hb);(try clear hb2);(try clear hk);(try clear hi);(try clear ho0);obtain ⟨Ao95,co95,eo95⟩:=Kd.R_slice HO506.out;subst eo95)|(go_at_call 45;(with_reducible refine (impl_TrmCanon.calls k4 _ _ t503 t511 _ ?side1 ?side2 A88.out).mono ?_);(case side1=>exact qz66);(case side2=>exact (Kd.R_reads' HO506.out).2.1);rintro e w96 ⟨v512,rfl,ho0,hb⟩;have n0_:=Aside0.mk (Kd.R_below qz9 hb);have n1_:=Aside0.mk (Kd.R_below qz7 hb);have n2_:=Aside0.mk (Kd.S_below qz10 hb);have n3_:=Aside0.mk (Kd.S_below qz11 hb);have n4_:=Aside0.mk (Kd.R_below qz48 hb);have n5_:=Aside0.mk (Kd.R_below qz56 hb);have n6_:=Aside0.mk (Kd.R_lower ho0 (below_size qz1));have n7_:=Aside0.mk (below_step qz1 hb);clear HO_4 HO_5 HO_6 HO_8 HO506 HO510 HB;have HO_4:=n0_;have HO_5:=n1_;have HO_6:=n2_;have HO_8:=n3_;have HO506:=n4_;have HO510:=n5_;have HO513:=n6_;have HB:=n7_;clear n0_ n1_ n2_ n3_ n4_ n5_ n6_ n7_;(try clear hb);(try clear hb2);(try clear hk);(try clear hi);(try clear ho0);obtain ⟨Ao97,co97,eo97⟩:=Kd.R_slice HO510.out;subst eo97)|(go_at_call 45;(with_reducible refine (impl_TrmCanon.calls k4 _ _ t507 t514 _ ?side1 ?side2 A89.out).mono ?_);(case side1=>exact qz65);(case side2=>exact (Kd.R_reads' HO510.out).2.1);rintro e w98 ⟨v515,rfl,ho0,hb⟩;have n0_:=Aside0.mk (Kd.R_below qz9 hb);have n1_:=Aside0.mk (Kd.R_below qz7 hb);have n2_:=Aside0.mk (Kd.S_below qz10 hb);have n3_:=Aside0.mk (Kd.S_below qz11 hb);have n4_:=Aside0.mk (Kd.R_below qz48 hb);have n5_:=Aside0.mk (Kd.R_below qz56 hb);have n6_:=Aside0.mk (Kd.R_below qz77 hb);have n7_:=Aside0.mk (Kd.R_lower ho0 (below_size qz1));have n8_:=Aside0.mk (below_step qz1 hb);clear HO_4 HO_5 HO_6 HO_8 HO506 HO510 HO513 HB;have HO_4:=n0_;have HO_5:=n1_;have HO_6:=n2_;have HO_8:=n3_;have HO506:=n4_;have HO510:=n5_;have HO513:=n6_;have HO516:=n7_;have HB:=n8_;clear n0_ n1_ n2_ n3_ n4_ n5_ n6_ n7_ n8_;(try clear hb);(try clear hb2);(try clear hk);(try clear hi);(try clear ho0);obtain ⟨Ao99,co99,eo99⟩:=Kd.R_slice HO513.out;subst eo99;obtain ⟨Ao100,co100,eo100⟩:=Kd.R_slice HO516.out;subst eo100)|(go_at_call 20;(with_reducible refine (laws_caTerm.calls k4 _ _ t511 _ _ t514 t517 _ ?side1 ?side2 ?side3 ?side4 A90.out).mono ?_);(case side1=>exact qz64);(case side2=>exact (Kd.R_reads' HO513.out).2.1);(case side3=>exact qz63);(case side4=>exact (Kd.R_reads' HO516.out).2.1);rintro e w' ⟨rfl,⟨nd,rfl⟩⟩;(try first|exact ⟨rfl,_,World.drewN_drewN _ _ _⟩|exact ⟨rfl,_,Eq.trans (World.drewN_drewN _ _ _) (congrArg (World.drewN _) (Nat.add_assoc _ _ _))⟩))))
                go_ret
                exact ⟨qz8,qz5⟩
               ·rw [if_neg c85] at H
                have c85b0:(t483 == 1)=false:=beq_eq_false_iff_ne.mpr c85
                have c85b1:(t483 != 1)=true:=bne_iff_ne.mpr c85
                obtain rfl:=Option.some.inj H
                have p491:0≤(0:Int):=(by omega)
                have q491:0<(t469.length:Int):=of_decide_eq_true qz6
                obtain ⟨ad491,e491,hx491_0,hx491_1,hx491_2⟩:=at_T46 (Kd.R_reads' HO_4.out).2.2 0 p491 q491
                cases e491
                have qi491:(0<t469.length)=True:=eq_true (by omega)
                (try rw [show ((0:Int)).toNat=0 from rfl] at hx491_0)
                (try rw [show 0 * 3=0 from rfl] at hx491_0)
                (try rw [Addr.add_zero'] at hx491_0)
                (try rw [show ((0:Int)).toNat=0 from rfl] at hx491_1)
                (try rw [show 0 * 3=0 from rfl] at hx491_1)
                (try rw [Addr.add_zero'] at hx491_1)
                (try rw [show ((0:Int)).toNat=0 from rfl] at hx491_2)
                (try rw [show 0 * 3=0 from rfl] at hx491_2)
                (try rw [Addr.add_zero'] at hx491_2)
                replace p491:=eq_true p491
                replace q491:=eq_true q491
                go_wp2
                repeat (go_quiet (fail);try go_wp2)
                go_ret
                exact ⟨qz8,qz5⟩
             ·rw [if_neg c51] at H
              exact absurd H (by simp)

end Go.Proofs.YtlaicnoikeieeaaDoor.P
