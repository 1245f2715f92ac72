/- Contracts of functions of the program: each as a Lean function, and that its call does what that says; printed by cprint.py (this session) over print.py of the kit. Conditions: the hypotheses of each theorem. -/
import Derived.Test.YtlaicnoikeieeaaDoorVZ
import Derived.Test.YtlaicnoikeieeaaDoorP0
import Derived.Test.YtlaicnoikeieeaaDoorP2
import Derived.Test.YtlaicnoikeieeaaDoorP9
namespace Go.Proofs.YtlaicnoikeieeaaDoor.P
open Go.RowKit Go.Proofs.YtlaicnoikeieeaaDoorW.PrintWords Go.Proofs.YtlaicnoikeieeaaDoorW.PrintLast Go.Proofs.YtlaicnoikeieeaaDoorW.PrintMore
attribute [local go_sem] max2_int min2_int max_two min_two max_three min_three max_four min_four   -- for this text's walks alone
set_option linter.unusedVariables false
set_option linter.unusedSimpArgs false

/-! ### impl_TrmArg: function 46 -/
def impl_TrmArg.j0:Nat→List (S46)→Int→Bool→Option ((List (S46)))
 | 0,_,_,_=>none
 | k+1,x0,x1,x17=>if x17=true then (some ([]:List (S46))) else ((impl_args.f k x0).bind fun t461=>(if 0≤x1 then (if x1<(t461.length:Int) then ((slices_Clone_TrmCell.f (rd_L3 t461 x1)).bind fun t465=>(some t465)) else (none)) else (none)))
def impl_TrmArg.f (k:Nat) (l0:List (S46)) (a1:Int):Option ((List (S46))):=(impl_TrmOk.f l0).bind fun t457=>(if t457=true then (if 0<(l0.length:Int) then ((impl_TrmCell_arity.f ((rd_T46 l0 0).f0) ((rd_T46 l0 0).f1) ((rd_T46 l0 0).f2)).bind fun t459=>((impl_in.f a1 0 (wrap64 (t459 - 1))).bind fun t460=>(impl_TrmArg.j0 k l0 a1 (!t460)))) else (none)) else (impl_TrmArg.j0 k l0 a1 true))
set_option maxHeartbeats 8000000 in
set_option maxRecDepth 100000 in
theorem impl_TrmArg.calls (k:Nat) (A0:Option Addr) (c0:Nat) (l0:List (S46)) (a1:Int) (r:List (S46)) (w:World) (hr0:Kd.C k46 w A0 l0.length l0) (hc0:l0.length≤c0) (h:impl_TrmArg.f k l0 a1=some r) :
  Calls Tryd.prog 46 #[.slice A0 l0.length c0,.int .i64 a1] w fun e w'=>∃ v0_:Value,e = .returned (v0_)∧Kd.R k46 46 w' w.heap.size (fun _=>True) v0_ r∧Below w.heap.size w w':=by
 have hu46:=Tryd.underlying46
 have HR0:=Aside0.mk hr0
 have HC0:=Aside0.mk hc0
 clear hr0 hc0
 have HB:=Aside0.mk (Below.refl w.heap.size w)
 have H:((impl_TrmOk.f l0).bind fun t457=>(if t457=true then (if 0<(l0.length:Int) then ((impl_TrmCell_arity.f ((rd_T46 l0 0).f0) ((rd_T46 l0 0).f1) ((rd_T46 l0 0).f2)).bind fun t459=>((impl_in.f a1 0 (wrap64 (t459 - 1))).bind fun t460=>(impl_TrmArg.j0 k l0 a1 (!t460)))) else (none)) else (impl_TrmArg.j0 k l0 a1 true)))=some r:=h
 clear h
 have HC3:=Aside0.mk H
 clear H
 go_enter Tryd.func46,Tryd.ntmps46
 go_upto_region 1 with (fail)
 go_cut [17] (fun v17 wc=>∃ (kq:Nat) (x17_2:Bool),v17 = .bool x17_2∧Aside0 (impl_TrmArg.j0 kq l0 a1 x17_2=some r)∧Aside0 (kq≤k)∧Aside0 (Below w.heap.size w wc))
 case first=>
  have H:=HC3.out
  clear HC3
  replace H:=Option.bind_eq_some_iff.mp H
  obtain ⟨t457,A40,H⟩:=H
  try dsimp only at H
  have A4:=Aside0.mk A40
  clear A40
  by_cases c5:t457=true
  ·subst c5
   have H1:(if 0<(l0.length:Int) then ((impl_TrmCell_arity.f ((rd_T46 l0 0).f0) ((rd_T46 l0 0).f1) ((rd_T46 l0 0).f2)).bind fun t459=>((impl_in.f a1 0 (wrap64 (t459 - 1))).bind fun t460=>(impl_TrmArg.j0 k l0 a1 (!t460)))) else (none))=some r:=qz47
   clear H
   have H:=H1
   clear H1
   by_cases c6:0<(l0.length:Int)
   ·rw [if_pos c6] at H
    have c6b0:decide (0<(l0.length:Int))=true:=decide_eq_true c6
    have c6b1:decide (0<l0.length)=true:=decide_eq_true (by omega)
    clear c6
    (first|rw [c6b0]|(simp only [i64_w,i32_w];rw [c6b0])|skip)
    replace H:=Option.bind_eq_some_iff.mp H
    obtain ⟨t459,A70,H⟩:=H
    try dsimp only at H
    have A7:=Aside0.mk A70
    clear A70
    replace H:=Option.bind_eq_some_iff.mp H
    obtain ⟨t460,A80,H⟩:=H
    try dsimp only at H
    have A8:=Aside0.mk A80
    clear A80
    have H':=Aside0.mk H
    clear H
    go_wp2_with (first|(go_at_call 42;(with_reducible refine (impl_TrmOk.calls _ _ l0 true _ ?side1 ?side2 A4.out).mono ?_);(case side1=>exact qz38);(case side2=>exact HC0.out);rintro e w9 ⟨rfl,hb⟩;have n0_:=Aside0.mk (below_step qz1 hb);clear HB;have HB:=n0_;clear n0_;(try clear hb);(try clear hb2);(try clear hk);(try clear hi);have p458:0≤(0:Int):=(by omega);have q458:0<(l0.length:Int):=of_decide_eq_true qz6;obtain ⟨ad458,e458,hx458_0,hx458_1,hx458_2⟩:=at_T46 HR0.out 0 p458 q458;cases e458;have qi458:(0<l0.length)=True:=eq_true (by omega);(try rw [show ((0:Int)).toNat=0 from rfl] at hx458_0);(try rw [show 0 * 3=0 from rfl] at hx458_0);(try rw [Addr.add_zero'] at hx458_0);(try rw [show ((0:Int)).toNat=0 from rfl] at hx458_1);(try rw [show 0 * 3=0 from rfl] at hx458_1);(try rw [Addr.add_zero'] at hx458_1);(try rw [show ((0:Int)).toNat=0 from rfl] at hx458_2);(try rw [show 0 * 3=0 from rfl] at hx458_2);(try rw [Addr.add_zero'] at hx458_2);replace hx458_0:=(HB.out.cell (World.block_lt_of_cell? w _ hx458_0)).trans hx458_0;replace hx458_1:=(HB.out.cell (World.block_lt_of_cell? w _ hx458_1)).trans hx458_1;replace hx458_2:=(HB.out.cell (World.block_lt_of_cell? w _ hx458_2)).trans hx458_2;replace p458:=eq_true p458;replace q458:=eq_true q458)|(go_at_call 84;(with_reducible refine (impl_TrmCell_arity.calls ((rd_T46 l0 0).f0) ((rd_T46 l0 0).f1) ((rd_T46 l0 0).f2) t459 _ A7.out).mono ?_);rintro e w10 ⟨rfl,hb⟩;have n0_:=Aside0.mk (below_step qz1 hb);clear HB;have HB:=n0_;clear n0_;(try clear hb);(try clear hb2);(try clear hk);(try clear hi))|(go_at_call 61;(with_reducible refine (impl_in.calls a1 0 (wrap64 (t459 - 1)) t460 _ A8.out).mono ?_);rintro e w' ⟨rfl,⟨nd,rfl⟩⟩))
    go_meet
    case rel=>exact ⟨_,(!t460),qz12,H',⟨qz55⟩,⟨qz5⟩⟩
   ·rw [if_neg c6] at H
    exact absurd H (by simp)
  ·replace c5:=Bool.eq_false_iff.mpr c5
   subst c5
   have H1:(impl_TrmArg.j0 k l0 a1 true)=some r:=qz31
   clear H
   have H:=H1
   clear H1
   have H':=Aside0.mk H
   clear H
   go_wp2_with (first|(go_at_call 42;(with_reducible refine (impl_TrmOk.calls _ _ l0 false _ ?side1 ?side2 A4.out).mono ?_);(case side1=>exact qz38);(case side2=>exact HC0.out);rintro e w11 ⟨rfl,hb⟩;have n0_:=Aside0.mk (below_step qz1 hb);clear HB;have HB:=n0_;clear n0_;(try clear hb);(try clear hb2);(try clear hk);(try clear hi)))
   go_meet
   case rel=>exact ⟨_,(true),qz12,H',⟨qz55⟩,⟨qz5⟩⟩
 case rest=>
  clear HC3
  try clear p2
  try clear c4
  try clear p4
  try clear q4
  try clear hx4
  try clear qi4
  try clear c5
  try clear c6
  try clear c6b0
  try clear c6b1
  try clear p6
  try clear hx458_0
  try clear hx458_1
  try clear hx458_2
  try clear p458
  try clear q458
  obtain ⟨kq,x17_2,rfl,HA,HJ2,HB⟩:=hcut
  cases kq with
  | zero=>exact absurd HA.out (by simp [impl_TrmArg.j0])
  | succ kj2=>
   have H:=HA.out
   clear HA
   simp only [impl_TrmArg.j0] at H
   by_cases c12:x17_2=true
   ·subst c12
    have H1:(some ([]:List (S46)))=some r:=qz47
    clear H
    have H:=H1
    clear H1
    obtain rfl:=Option.some.inj H
    go_wp2
    go_ret
    exact ⟨_,qz8,qz59,qz5⟩
   ·replace c12:=Bool.eq_false_iff.mpr c12
    subst c12
    have H1:((impl_args.f kj2 l0).bind fun t461=>(if 0≤a1 then (if a1<(t461.length:Int) then ((slices_Clone_TrmCell.f (rd_L3 t461 a1)).bind fun t465=>(some t465)) else (none)) else (none)))=some r:=qz31
    clear H
    have H:=H1
    clear H1
    replace H:=Option.bind_eq_some_iff.mp H
    obtain ⟨t461,A130,H⟩:=H
    try dsimp only at H
    have A13:=Aside0.mk A130
    clear A130
    by_cases c14:0≤a1
    ·rw [if_pos c14] at H
     have c14b0:decide (0≤a1)=true:=decide_eq_true c14
     clear c14
     by_cases c15:a1<(t461.length:Int)
     ·rw [if_pos c15] at H
      have c15b0:decide (a1<(t461.length:Int))=true:=decide_eq_true c15
      clear c15
      replace H:=Option.bind_eq_some_iff.mp H
      obtain ⟨t465,A160,H⟩:=H
      try dsimp only at H
      have A16:=Aside0.mk A160
      clear A160
      obtain rfl:=Option.some.inj H
      go_wp2_with (first|(go_at_call 85;(with_reducible refine (impl_args.calls kj2 (fun k_=>k_<w.heap.size) _ _ l0 t461 _ ?side1 A13.out).mono ?_);(case side1=>exact Kd.V_mk HC0.out (Kd.F_below (Kd.C_F k46_heap HR0.out) qz1));rintro e w17 ⟨v462,rfl,ho0,hb⟩;have n0_:=Aside0.mk (Kd.N_lower (Kd.N_mono (ok':=fun k_=>True) ho0 (fun k_ hk_=>trivial)) (below_size qz1));have n1_:=Aside0.mk (below_step qz1 hb);clear HB;have HO463:=n0_;have HB:=n1_;clear n0_ n1_;(try clear hb);(try clear hb2);(try clear hk);(try clear hi);(try clear ho0);obtain ⟨Ao18,co18,eo18⟩:=Kd.N_slice HO463.out;subst eo18;have p464:0≤(a1:Int):=of_decide_eq_true qz6;have q464:a1<(t461.length:Int):=of_decide_eq_true qz6;obtain ⟨ad464,A464_0,c464_0,e464,hx464_0,hl464_0,hi464_0⟩:=at_L3 (Kd.N_reads' HO463.out).2.2 a1 p464 q464;cases e464;obtain ⟨ce464,hce464,hMe464,hcc464⟩:=Kd.N_get HO463.out [] a1 p464 (by first|exact q464|exact of_decide_eq_true qz6|(have e_:=(Kd.N_reads' HO463.out).1;omega));obtain ⟨ua464_0,uc464_0,rfl,ul464_0,ge464_0⟩:=Kd.FK_slice_open hMe464;have hv464_0:=hcc464 0 _ rfl;rw [Nat.add_zero,show ((Kd.slice 46 k46)).sz=1 from rfl,Nat.mul_one] at hv464_0;replace hv464_0:=Option.some.inj (hv464_0.symm.trans hx464_0);injection hv464_0 with hva_ hvn_ hvc_;rw [hva_] at ge464_0;rw [hvc_] at ul464_0;have HL464_0:=Aside0.mk (show Kd.V k46 46 _ w.heap.size _ _ (rd_L3 t461 a1) from Kd.V_mk ul464_0 ge464_0);clear hva_ hvn_ hvc_ ge464_0 ul464_0 hcc464 hce464;have HR464_0:=Aside0.mk hi464_0;have HC464_0:=Aside0.mk hl464_0;clear hi464_0 hl464_0;replace p464:=eq_true p464;replace q464:=eq_true q464)|(go_at_call 55;(with_reducible refine (slices_Clone_TrmCell.calls _ _ (rd_L3 t461 a1) t465 _ ?side1 ?side2 A16.out).mono ?_);(case side1=>repeat (first|exact qz84|(with_reducible refine Kd.C_alloc ?_ _)|(with_reducible refine Kd.C_drewN ?_ _)|(with_reducible refine Kd.C_drew ?_)));(case side2=>exact HC464_0.out);rintro e w19 ⟨v466,rfl,ho0,hb⟩;have n0_:=Aside0.mk (Kd.N_elder' (by (with_reducible repeat (first|apply Kd.N_alloc|apply Kd.N_drewN|apply Kd.N_drew));exact HO463.out) (Kd.R_base ho0) hb);have n1_:=Aside0.mk (Kd.V_elder' (by (with_reducible repeat (first|apply Kd.V_alloc|apply Kd.V_drewN|apply Kd.V_drew));exact HL464_0.out) (Kd.R_base ho0) hb);have n2_:=Aside0.mk (Kd.R_lower ho0 (below_size qz1));have n3_:=Aside0.mk (Kd.C_below qz84 hb);have n4_:=Aside0.mk (below_step qz1 hb);clear HO463 HL464_0 HR464_0 HB;have HO463:=n0_;have HL464_0:=n1_;have HO467:=n2_;have HR464_0:=n3_;have HB:=n4_;clear n0_ n1_ n2_ n3_ n4_;(try clear hb);(try clear hb2);(try clear hk);(try clear hi);(try clear ho0)))
      go_ret
      exact ⟨_,qz8,by (with_reducible repeat (first|apply Kd.R_alloc|apply Kd.R_drewN|apply Kd.R_drew));exact HO467.out,qz5⟩
     ·rw [if_neg c15] at H
      exact absurd H (by simp)
    ·rw [if_neg c14] at H
     exact absurd H (by simp)

end Go.Proofs.YtlaicnoikeieeaaDoor.P
