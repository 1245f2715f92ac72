/- Contracts of functions of the program: each as a Lean function, and that its call does what that says; printed by cprint.py (this session) over print.py of the kit. Conditions: the hypotheses of each theorem. -/
import Derived.Test.YtlaicnoikeieeaaDoorP0
import Derived.Test.YtlaicnoikeieeaaDoorP6
import Derived.Test.YtlaicnoikeieeaaDoorP12
import Derived.Test.YtlaicnoikeieeaaDoorP13
import Derived.Test.YtlaicnoikeieeaaDoorP14
import Derived.Test.YtlaicnoikeieeaaDoorP15
import Derived.Test.YtlaicnoikeieeaaDoorP16
namespace Go.Proofs.YtlaicnoikeieeaaDoor.P
open Go.RowKit Go.Proofs.YtlaicnoikeieeaaDoorW.PrintWords Go.Proofs.YtlaicnoikeieeaaDoorW.PrintLast Go.Proofs.YtlaicnoikeieeaaDoorW.PrintMore
attribute [local go_sem] max2_int min2_int max_two min_two max_three min_three max_four min_four   -- for this text's walks alone
set_option linter.unusedVariables false
set_option linter.unusedSimpArgs false

/-! ### laws_FnExactSubUnify: function 16 -/
/-- the law's one way: what it answers where all that it asks holds -/
def laws_FnExactSubUnify.f (k:Nat) (l0:List Cat.Bind) (l1:List Cat.Cell) (l2:List Cat.Cell):Option Bool:=
 (laws_szSubBindS.f k l0 1048576).bind fun t0=>if t0<0 then some true else (laws_szTrmCellS.f k l1 t0).bind fun t1=>if t1<0 then some true else (laws_szTrmCellS.f k l2 t1).bind fun t2=>if t2<0 then some true else 
 (laws_toSubBindS.f k l0).bind fun s0=>(laws_toTrmCellS.f k l1).bind fun s1=>(laws_toTrmCellS.f k l2).bind fun s2=>(spec_SubUnify.f k s0 s1 s2).bind fun x=>(impl_SubUnify.f k s0 s1 s2).bind fun g=>
 (laws_eqSubBindS.f k g.1 x.1).bind fun e=>(laws_eqSubBindS.f k s0 s0).bind fun e0=>(laws_eqTrmCellS.f k s1 s1).bind fun e1=>(laws_eqTrmCellS.f k s2 s2).bind fun e2=>
 (laws_markSubBindS.f k s0 1).bind fun m0=>(laws_markTrmCellS.f k s1 m0.1).bind fun m1=>(laws_markTrmCellS.f k s2 m1.1).bind fun m2=>(laws_markSubBindS.f k g.1 1).bind fun m=>(laws_heldSubBindS.f k m.2 1).bind fun q=>
 if e=true∧g.2=x.2∧e0=true∧e1=true∧e2=true∧0≤m2.1∧q=m.1∧0≤q then some true else none
section
variable {X0 X1 X2 X3 X4 : World → Prop} {W W' : World} {a0 a1 a2 a3 a4 a5 : Nat}
theorem laws_FnExactSubUnify.mark1 (h:AllL [(X4,a4,a5),(X3,a3,a4),(X2,a2,a3),(X1,a1,a2),(X0,a0,a1)] W) (hk:Kept W W' (fun k=>a1≤k∧k<a2)) (h0:a0≤a1) (h1:a1≤a2) (h2:a2≤a3) (h3:a3≤a4) (h4:a4≤a5):AllL [(X4,a4,a5),(X3,a3,a4),(X2,a2,a3),(X0,a0,a1)] W':=by
 have x4:Loc X4 W a4 a5:=h _ (.head _)
 have x3:Loc X3 W a3 a4:=h.tail _ (.head _)
 have x2:Loc X2 W a2 a3:=h.tail.tail _ (.head _)
 have x0:Loc X0 W a0 a1:=h.tail.tail.tail.tail _ (.head _)
 exact AllL.cons (x4.kept hk (fun k p r q=>by omega)) (AllL.cons (x3.kept hk (fun k p r q=>by omega)) (AllL.cons (x2.kept hk (fun k p r q=>by omega)) (AllL.cons (x0.kept hk (fun k p r q=>by omega)) (AllL.nil _))))
theorem laws_FnExactSubUnify.mark2 (h:AllL [(X4,a4,a5),(X3,a3,a4),(X2,a2,a3),(X0,a0,a1)] W) (hk:Kept W W' (fun k=>a2≤k∧k<a3)) (h0:a0≤a1) (h1:a1≤a2) (h2:a2≤a3) (h3:a3≤a4) (h4:a4≤a5):AllL [(X4,a4,a5),(X3,a3,a4),(X0,a0,a1)] W':=by
 have x4:Loc X4 W a4 a5:=h _ (.head _)
 have x3:Loc X3 W a3 a4:=h.tail _ (.head _)
 have x0:Loc X0 W a0 a1:=h.tail.tail.tail _ (.head _)
 exact AllL.cons (x4.kept hk (fun k p r q=>by omega)) (AllL.cons (x3.kept hk (fun k p r q=>by omega)) (AllL.cons (x0.kept hk (fun k p r q=>by omega)) (AllL.nil _)))
theorem laws_FnExactSubUnify.mark3 (h:AllL [(X4,a4,a5),(X3,a3,a4),(X0,a0,a1)] W) (hk:Kept W W' (fun k=>a3≤k∧k<a4)) (h0:a0≤a1) (h1:a1≤a2) (h2:a2≤a3) (h3:a3≤a4) (h4:a4≤a5):AllL [(X4,a4,a5),(X0,a0,a1)] W':=by
 have x4:Loc X4 W a4 a5:=h _ (.head _)
 have x0:Loc X0 W a0 a1:=h.tail.tail _ (.head _)
 exact AllL.cons (x4.kept hk (fun k p r q=>by omega)) (AllL.cons (x0.kept hk (fun k p r q=>by omega)) (AllL.nil _))
theorem laws_FnExactSubUnify.mark4 (h:AllL [(X4,a4,a5),(X0,a0,a1)] W) (hk:Kept W W' (fun k=>a4≤k∧k<a5)) (h0:a0≤a1) (h1:a1≤a2) (h2:a2≤a3) (h3:a3≤a4) (h4:a4≤a5):AllL [(X0,a0,a1)] W':=by
 have x0:Loc X0 W a0 a1:=h.tail _ (.head _)
 exact AllL.cons (x0.kept hk (fun k p r q=>by omega)) (AllL.nil _)
end
set_option maxHeartbeats 16000000 in
set_option maxRecDepth 100000 in
theorem laws_FnExactSubUnify.calls (k:Nat) (A0:Option Addr) (c0:Nat) (l0:List (S72)) (A1:Option Addr) (c1:Nat) (l1:List (S90)) (A2:Option Addr) (c2:Nat) (l2:List (S90)) (r:Bool) (w:World) (hr0:Kd.C k72 w A0 l0.length l0) (hc0:l0.length≤c0) (hr1:Kd.C k90 w A1 l1.length l1) (hc1:l1.length≤c1) (hr2:Kd.C k90 w A2 l2.length l2) (hc2:l2.length≤c2) (h:laws_FnExactSubUnify.f k l0 l1 l2=some r) :
  Calls Tryd.prog 16 #[.slice A0 l0.length c0,.slice A1 l1.length c1,.slice A2 l2.length c2] w fun e w'=>e = .returned (.bool r)∧Below w.heap.size w w':=by
 unfold laws_FnExactSubUnify.f at h
 have HR0:=Aside0.mk hr0
 clear hr0
 have HR1:=Aside0.mk hr1
 clear hr1
 have HR2:=Aside0.mk hr2
 clear hr2
 obtain ⟨t0,hs0,g1⟩:=Option.bind_eq_some_iff.1 h
 clear h
 have HS0:=Aside0.mk hs0
 clear hs0
 by_cases ht0:t0<0
 ·rw [if_pos ht0] at g1
  obtain rfl:=Option.some.inj g1
  clear g1
  go_enter Tryd.func16,Tryd.ntmps16
  go_wp2_with (first|(go_at_call 23;(with_reducible refine (laws_szSubBindS.calls k A0 c0 l0 1048576 t0 w HR0.out hc0 HS0.out).mono ?_);rintro e w1 ⟨rfl,hb⟩;have HB1:=Aside0.mk hb;clear hb))
  go_ret
  exact ⟨rfl,HB1.out⟩
 rw [if_neg ht0] at g1
 obtain ⟨t1,hs1,g2⟩:=Option.bind_eq_some_iff.1 g1
 clear g1
 have HS1:=Aside0.mk hs1
 clear hs1
 by_cases ht1:t1<0
 ·rw [if_pos ht1] at g2
  obtain rfl:=Option.some.inj g2
  clear g2
  go_enter Tryd.func16,Tryd.ntmps16
  go_wp2_with (first|(go_at_call 23;(with_reducible refine (laws_szSubBindS.calls k A0 c0 l0 1048576 t0 w HR0.out hc0 HS0.out).mono ?_);rintro e w1 ⟨rfl,hb⟩;have HB1:=Aside0.mk hb;clear hb)|(go_at_call 33;(with_reducible refine (laws_szTrmCellS.calls k A1 c1 l1 t0 t1 w1 (Kd.C_below HR1.out HB1.out) hc1 HS1.out).mono ?_);rintro e w2 ⟨rfl,hb⟩;have HB2:=Aside0.mk (HB1.out.trans (hb.mono HB1.out.size));clear hb))
  go_ret
  exact ⟨rfl,HB2.out⟩
 rw [if_neg ht1] at g2
 obtain ⟨t2,hs2,g3⟩:=Option.bind_eq_some_iff.1 g2
 clear g2
 have HS2:=Aside0.mk hs2
 clear hs2
 by_cases ht2:t2<0
 ·rw [if_pos ht2] at g3
  obtain rfl:=Option.some.inj g3
  clear g3
  go_enter Tryd.func16,Tryd.ntmps16
  go_wp2_with (first|(go_at_call 23;(with_reducible refine (laws_szSubBindS.calls k A0 c0 l0 1048576 t0 w HR0.out hc0 HS0.out).mono ?_);rintro e w1 ⟨rfl,hb⟩;have HB1:=Aside0.mk hb;clear hb)|(go_at_call 33;(with_reducible refine (laws_szTrmCellS.calls k A1 c1 l1 t0 t1 w1 (Kd.C_below HR1.out HB1.out) hc1 HS1.out).mono ?_);rintro e w2 ⟨rfl,hb⟩;have HB2:=Aside0.mk (HB1.out.trans (hb.mono HB1.out.size));clear hb)|(go_at_call 33;(with_reducible refine (laws_szTrmCellS.calls k A2 c2 l2 t1 t2 w2 (Kd.C_below HR2.out HB2.out) hc2 HS2.out).mono ?_);rintro e w3 ⟨rfl,hb⟩;have HB3:=Aside0.mk (HB2.out.trans (hb.mono HB2.out.size));clear hb))
  go_ret
  exact ⟨rfl,HB3.out⟩
 rw [if_neg ht2] at g3
 obtain ⟨s0,ha0,g4⟩:=Option.bind_eq_some_iff.1 g3
 clear g3
 have HA0:=Aside0.mk ha0
 clear ha0
 obtain ⟨s1,ha1,g5⟩:=Option.bind_eq_some_iff.1 g4
 clear g4
 have HA1:=Aside0.mk ha1
 clear ha1
 obtain ⟨s2,ha2,g6⟩:=Option.bind_eq_some_iff.1 g5
 clear g5
 have HA2:=Aside0.mk ha2
 clear ha2
 obtain ⟨⟨x,xb⟩,hx,g7⟩:=Option.bind_eq_some_iff.1 g6
 clear g6
 have HX:=Aside0.mk hx
 clear hx
 obtain ⟨⟨g,gb⟩,hg,g8⟩:=Option.bind_eq_some_iff.1 g7
 clear g7
 have HG:=Aside0.mk hg
 clear hg
 obtain ⟨e,he,g9⟩:=Option.bind_eq_some_iff.1 g8
 clear g8
 have HE:=Aside0.mk he
 clear he
 obtain ⟨e0,he0,g10⟩:=Option.bind_eq_some_iff.1 g9
 clear g9
 have HE0:=Aside0.mk he0
 clear he0
 obtain ⟨e1,he1,g11⟩:=Option.bind_eq_some_iff.1 g10
 clear g10
 have HE1:=Aside0.mk he1
 clear he1
 obtain ⟨e2,he2,g12⟩:=Option.bind_eq_some_iff.1 g11
 clear g11
 have HE2:=Aside0.mk he2
 clear he2
 obtain ⟨⟨m0,y0⟩,hm0,g13⟩:=Option.bind_eq_some_iff.1 g12
 clear g12
 have HM0:=Aside0.mk hm0
 clear hm0
 obtain ⟨⟨m1,y1⟩,hm1,g14⟩:=Option.bind_eq_some_iff.1 g13
 clear g13
 have HM1:=Aside0.mk hm1
 clear hm1
 obtain ⟨⟨m2,y2⟩,hm2,g15⟩:=Option.bind_eq_some_iff.1 g14
 clear g14
 have HM2:=Aside0.mk hm2
 clear hm2
 obtain ⟨⟨m,y⟩,hm,g16⟩:=Option.bind_eq_some_iff.1 g15
 clear g15
 have HM:=Aside0.mk hm
 clear hm
 obtain ⟨q,hq,g17⟩:=Option.bind_eq_some_iff.1 g16
 clear g16
 have HQ:=Aside0.mk hq
 clear hq
 by_cases hall:e=true∧gb=xb∧e0=true∧e1=true∧e2=true∧0≤m2∧q=m∧0≤q
 case neg=>rw [if_neg hall] at g17;cases g17
 rw [if_pos hall] at g17
 obtain ⟨rfl,rfl,rfl,rfl,rfl,hml,rfl,hqq⟩:=hall
 obtain rfl:=Option.some.inj g17
 clear g17
 have hml':¬ m2<0:=by omega
 have hq':¬ q<0:=by omega
 clear hml hqq
 go_enter Tryd.func16,Tryd.ntmps16
 go_wp2_with (first
  | (go_at_call 23;(with_reducible refine (laws_szSubBindS.calls k A0 c0 l0 1048576 t0 w HR0.out hc0 HS0.out).mono ?_);rintro e w1 ⟨rfl,hb⟩;have HB1:=Aside0.mk hb;clear hb)
  | (go_at_call 33;(with_reducible refine (laws_szTrmCellS.calls k A1 c1 l1 t0 t1 w1 (Kd.C_below HR1.out HB1.out) hc1 HS1.out).mono ?_);rintro e w2 ⟨rfl,hb⟩;have HB2:=Aside0.mk (HB1.out.trans (hb.mono HB1.out.size));clear hb)
  | (go_at_call 33;(with_reducible refine (laws_szTrmCellS.calls k A2 c2 l2 t1 t2 w2 (Kd.C_below HR2.out HB2.out) hc2 HS2.out).mono ?_);rintro e w3 ⟨rfl,hb⟩;have HB3:=Aside0.mk (HB2.out.trans (hb.mono HB2.out.size));clear hb)
  | (go_at_call 25;(with_reducible refine (laws_toSubBindS.calls k A0 c0 l0 s0 w3 (Kd.C_below HR0.out HB3.out) hc0 HA0.out).mono ?_);rintro e w4 ⟨v4,rfl,ho,hb⟩;obtain ⟨T0,d0,ev4⟩:=Kd.S_slice ho;subst ev4;have HT0_4:=Aside0.mk ho;have HB4:=Aside0.mk (HB3.out.trans (hb.mono HB3.out.size));clear hb ho)
  | (go_at_call 35;(with_reducible refine (laws_toTrmCellS.calls k A1 c1 l1 s1 w4 (Kd.C_below HR1.out HB4.out) hc1 HA1.out).mono ?_);rintro e w5 ⟨v5,rfl,ho,hb⟩;obtain ⟨T1,d1,ev5⟩:=Kd.R_slice ho;subst ev5;have HT1_5:=Aside0.mk ho;have HT0_5:=Aside0.mk (Kd.S_below HT0_4.out hb);have HB5:=Aside0.mk (HB4.out.trans (hb.mono HB4.out.size));clear hb ho)
  | (go_at_call 35;(with_reducible refine (laws_toTrmCellS.calls k A2 c2 l2 s2 w5 (Kd.C_below HR2.out HB5.out) hc2 HA2.out).mono ?_);rintro e w6 ⟨v6,rfl,ho,hb⟩;obtain ⟨T2,d2,ev6⟩:=Kd.R_slice ho;subst ev6;have HT2_6:=Aside0.mk ho;have HT0_6:=Aside0.mk (Kd.S_below HT0_5.out hb);have HT1_6:=Aside0.mk (Kd.R_below HT1_5.out hb);have HB6:=Aside0.mk (HB5.out.trans (hb.mono HB5.out.size));clear hb ho)
  | (go_at_call 47;(with_reducible refine (spec_SubUnify.calls k T0 d0 s0 T1 d1 s1 T2 d2 s2 x gb w6 (Kd.S_reads' HT0_6.out).2.2 (Kd.S_reads' HT0_6.out).2.1 (Kd.R_reads' HT1_6.out).2.2 (Kd.R_reads' HT1_6.out).2.1 (Kd.R_reads' HT2_6.out).2.2 (Kd.R_reads' HT2_6.out).2.1 HX.out).mono ?_);rintro e w7 ⟨v7,rfl,ho,hb⟩;obtain ⟨AW,cW,ev7⟩:=Kd.S_slice ho;subst ev7;have ML7:=Aside0.mk (AllL.cons (Loc.ofS ho HB6.out.size) (AllL.nil _));have HZ7:=Aside0.mk hb.size;have HB7:=Aside0.mk (HB6.out.trans (hb.mono HB6.out.size));clear hb ho)
  | (go_at_call 25;(with_reducible refine (laws_toSubBindS.calls k A0 c0 l0 s0 w7 (Kd.C_below HR0.out HB7.out) hc0 HA0.out).mono ?_);rintro e w8 ⟨v8,rfl,ho,hb⟩;obtain ⟨B0,b0,ev8⟩:=Kd.S_slice ho;subst ev8;have ML8:=Aside0.mk (AllL.cons (Loc.ofS ho HB7.out.size) (ML7.out.below hb));have HZ8:=Aside0.mk hb.size;have HB8:=Aside0.mk (HB7.out.trans (hb.mono HB7.out.size));clear hb ho)
  | (go_at_call 35;(with_reducible refine (laws_toTrmCellS.calls k A1 c1 l1 s1 w8 (Kd.C_below HR1.out HB8.out) hc1 HA1.out).mono ?_);rintro e w9 ⟨v9,rfl,ho,hb⟩;obtain ⟨B1,b1,ev9⟩:=Kd.R_slice ho;subst ev9;have ML9:=Aside0.mk (AllL.cons (Loc.ofR ho HB8.out.size) (ML8.out.below hb));have HZ9:=Aside0.mk hb.size;have HB9:=Aside0.mk (HB8.out.trans (hb.mono HB8.out.size));clear hb ho)
  | (go_at_call 35;(with_reducible refine (laws_toTrmCellS.calls k A2 c2 l2 s2 w9 (Kd.C_below HR2.out HB9.out) hc2 HA2.out).mono ?_);rintro e w10 ⟨v10,rfl,ho,hb⟩;obtain ⟨B2,b2,ev10⟩:=Kd.R_slice ho;subst ev10;have ML10:=Aside0.mk (AllL.cons (Loc.ofR ho HB9.out.size) (ML9.out.below hb));have HZ10:=Aside0.mk hb.size;have HB10:=Aside0.mk (HB9.out.trans (hb.mono HB9.out.size));clear hb ho)
  | (go_at_call 31;(with_reducible refine (impl_SubUnify.calls k B0 b0 s0 B1 b1 s1 B2 b2 s2 g gb w10 (Kd.S_reads' (AllL.i2 ML10.out)).2.2 (Kd.S_reads' (AllL.i2 ML10.out)).2.1 (Kd.R_reads' (AllL.i1 ML10.out)).2.2 (Kd.R_reads' (AllL.i1 ML10.out)).2.1 (Kd.R_reads' (AllL.i0 ML10.out)).2.2 (Kd.R_reads' (AllL.i0 ML10.out)).2.1 HG.out).mono ?_);rintro e w11 ⟨v11,rfl,ho,hb⟩;obtain ⟨AG,cG,ev11⟩:=Kd.S_slice ho;subst ev11;have ML11:=Aside0.mk (AllL.cons (Loc.ofS ho HB10.out.size) (ML10.out.below hb));have HZ11:=Aside0.mk hb.size;have HB11:=Aside0.mk (HB10.out.trans (hb.mono HB10.out.size));clear hb ho)
  | (go_at_call 27;(with_reducible refine (laws_eqSubBindS.calls k AG cG g AW cW x true w11 (Kd.S_reads' (AllL.i0 ML11.out)).2.2 (Kd.S_reads' (AllL.i0 ML11.out)).2.1 (Kd.S_reads' (AllL.i4 ML11.out)).2.2 (Kd.S_reads' (AllL.i4 ML11.out)).2.1 HE.out).mono ?_);rintro e w12 ⟨rfl,hb⟩;have ML12:=Aside0.mk (ML11.out.below hb);have HB12:=Aside0.mk (HB11.out.trans (hb.mono HB11.out.size));clear hb)
  | (go_at_call 25;(with_reducible refine (laws_toSubBindS.calls k A0 c0 l0 s0 w12 (Kd.C_below HR0.out HB12.out) hc0 HA0.out).mono ?_);rintro e w13 ⟨v13,rfl,ho,hb⟩;obtain ⟨C0,f0,ev13⟩:=Kd.S_slice ho;subst ev13;have HC0:=Aside0.mk (Kd.S_reads' ho);have ML13:=Aside0.mk (ML12.out.below hb);have HB13:=Aside0.mk (HB12.out.trans (hb.mono HB12.out.size));clear hb ho)
  | (go_at_call 27;(with_reducible refine (laws_eqSubBindS.calls k B0 b0 s0 C0 f0 s0 true w13 (Kd.S_reads' (AllL.i3 ML13.out)).2.2 (Kd.S_reads' (AllL.i3 ML13.out)).2.1 HC0.out.2.2 HC0.out.2.1 HE0.out).mono ?_);rintro e w14 ⟨rfl,hb⟩;have ML14:=Aside0.mk (ML13.out.below hb);have HB14:=Aside0.mk (HB13.out.trans (hb.mono HB13.out.size));clear hb)
  | (go_at_call 35;(with_reducible refine (laws_toTrmCellS.calls k A1 c1 l1 s1 w14 (Kd.C_below HR1.out HB14.out) hc1 HA1.out).mono ?_);rintro e w15 ⟨v15,rfl,ho,hb⟩;obtain ⟨C1,f1,ev15⟩:=Kd.R_slice ho;subst ev15;have HC1:=Aside0.mk (Kd.R_reads' ho);have ML15:=Aside0.mk (ML14.out.below hb);have HB15:=Aside0.mk (HB14.out.trans (hb.mono HB14.out.size));clear hb ho)
  | (go_at_call 37;(with_reducible refine (laws_eqTrmCellS.calls k B1 b1 s1 C1 f1 s1 true w15 (Kd.R_reads' (AllL.i2 ML15.out)).2.2 (Kd.R_reads' (AllL.i2 ML15.out)).2.1 HC1.out.2.2 HC1.out.2.1 HE1.out).mono ?_);rintro e w16 ⟨rfl,hb⟩;have ML16:=Aside0.mk (ML15.out.below hb);have HB16:=Aside0.mk (HB15.out.trans (hb.mono HB15.out.size));clear hb)
  | (go_at_call 35;(with_reducible refine (laws_toTrmCellS.calls k A2 c2 l2 s2 w16 (Kd.C_below HR2.out HB16.out) hc2 HA2.out).mono ?_);rintro e w17 ⟨v17,rfl,ho,hb⟩;obtain ⟨C2,f2,ev17⟩:=Kd.R_slice ho;subst ev17;have HC2:=Aside0.mk (Kd.R_reads' ho);have ML17:=Aside0.mk (ML16.out.below hb);have HB17:=Aside0.mk (HB16.out.trans (hb.mono HB16.out.size));clear hb ho)
  | (go_at_call 37;(with_reducible refine (laws_eqTrmCellS.calls k B2 b2 s2 C2 f2 s2 true w17 (Kd.R_reads' (AllL.i1 ML17.out)).2.2 (Kd.R_reads' (AllL.i1 ML17.out)).2.1 HC2.out.2.2 HC2.out.2.1 HE2.out).mono ?_);rintro e w18 ⟨rfl,hb⟩;have ML18:=Aside0.mk (ML17.out.below hb);have HB18:=Aside0.mk (HB17.out.trans (hb.mono HB17.out.size));clear hb)
  | (go_at_call 38;(with_reducible refine (laws_markSubBindS.calls k (fun k=>w7.heap.size≤k∧k<w8.heap.size) (.slice B0 s0.length b0) s0 1 m0 y0 w w18 HB18.out (AllL.i3 ML18.out) HM0.out).mono ?_);rintro e w19 ⟨rfl,_,hb,hk⟩;have HB19:=Aside0.mk hb;have ML19:=Aside0.mk (laws_FnExactSubUnify.mark1 ML18.out hk HZ7.out HZ8.out HZ9.out HZ10.out HZ11.out);clear hb hk)
  | (go_at_call 39;(with_reducible refine (laws_markTrmCellS.calls k (fun k=>w8.heap.size≤k∧k<w9.heap.size) (.slice B1 s1.length b1) s1 m0 m1 y1 w w19 HB19.out (AllL.i2 ML19.out) HM1.out).mono ?_);rintro e w20 ⟨rfl,_,hb,hk⟩;have HB20:=Aside0.mk hb;have ML20:=Aside0.mk (laws_FnExactSubUnify.mark2 ML19.out hk HZ7.out HZ8.out HZ9.out HZ10.out HZ11.out);clear hb hk)
  | (go_at_call 39;(with_reducible refine (laws_markTrmCellS.calls k (fun k=>w9.heap.size≤k∧k<w10.heap.size) (.slice B2 s2.length b2) s2 m1 m2 y2 w w20 HB20.out (AllL.i1 ML20.out) HM2.out).mono ?_);rintro e w21 ⟨rfl,_,hb,hk⟩;have HB21:=Aside0.mk hb;have ML21:=Aside0.mk (laws_FnExactSubUnify.mark3 ML20.out hk HZ7.out HZ8.out HZ9.out HZ10.out HZ11.out);clear hb hk)
  | (go_at_call 27;(with_reducible refine (laws_eqSubBindS.calls k AG cG g AW cW x true w21 (Kd.S_reads' (AllL.i0 ML21.out)).2.2 (Kd.S_reads' (AllL.i0 ML21.out)).2.1 (Kd.S_reads' (AllL.i1 ML21.out)).2.2 (Kd.S_reads' (AllL.i1 ML21.out)).2.1 HE.out).mono ?_);rintro e w22 ⟨rfl,hb⟩;have ML22:=Aside0.mk (ML21.out.below hb);have HB22:=Aside0.mk (HB21.out.trans (hb.mono HB21.out.size));clear hb)
  | (go_at_call 38;(with_reducible refine (laws_markSubBindS.calls k (fun k=>w10.heap.size≤k∧k<w11.heap.size) (.slice AG g.length cG) g 1 q y w w22 HB22.out (AllL.i0 ML22.out) HM.out).mono ?_);rintro e w23 ⟨rfl,hr,hb,hk⟩;have HB23:=Aside0.mk hb;have ML23:=Aside0.mk (laws_FnExactSubUnify.mark4 ML22.out hk HZ7.out HZ8.out HZ9.out HZ10.out HZ11.out);have HY23:=Aside0.mk (Kd.S_reads' hr).2.2;have HLY:=Aside0.mk (Kd.S_reads' hr).1;have HCY:=Aside0.mk (Kd.S_reads' hr).2.1;clear hr hb hk)
  | (go_at_call 49;refine calls_of_args (args':=#[.slice AG y.length cG,.int .i64 1]) (by rw [HLY.out]) ?_;(with_reducible refine (laws_heldSubBindS.calls k AG cG y 1 q w23 HY23.out (HLY.out ▸ HCY.out) HQ.out).mono ?_);rintro e w24 ⟨rfl,hb⟩;have ML24:=Aside0.mk (ML23.out.below hb);have HY24:=Aside0.mk (Kd.C_below HY23.out hb);have HB24:=Aside0.mk (HB23.out.trans (hb.mono HB23.out.size));clear hb)
  | (go_at_call 25;(with_reducible refine (laws_toSubBindS.calls k A0 c0 l0 s0 w24 (Kd.C_below HR0.out HB24.out) hc0 HA0.out).mono ?_);rintro e w25 ⟨v25,rfl,ho,hb⟩;obtain ⟨U0,u0,ev25⟩:=Kd.S_slice ho;subst ev25;have HU0_25:=Aside0.mk ho;have ML25:=Aside0.mk (ML24.out.below hb);have HY25:=Aside0.mk (Kd.C_below HY24.out hb);have HB25:=Aside0.mk (HB24.out.trans (hb.mono HB24.out.size));clear hb ho)
  | (go_at_call 35;(with_reducible refine (laws_toTrmCellS.calls k A1 c1 l1 s1 w25 (Kd.C_below HR1.out HB25.out) hc1 HA1.out).mono ?_);rintro e w26 ⟨v26,rfl,ho,hb⟩;obtain ⟨U1,u1,ev26⟩:=Kd.R_slice ho;subst ev26;have HU1_26:=Aside0.mk ho;have HU0_26:=Aside0.mk (Kd.S_below HU0_25.out hb);have ML26:=Aside0.mk (ML25.out.below hb);have HY26:=Aside0.mk (Kd.C_below HY25.out hb);have HB26:=Aside0.mk (HB25.out.trans (hb.mono HB25.out.size));clear hb ho)
  | (go_at_call 35;(with_reducible refine (laws_toTrmCellS.calls k A2 c2 l2 s2 w26 (Kd.C_below HR2.out HB26.out) hc2 HA2.out).mono ?_);rintro e w27 ⟨v27,rfl,ho,hb⟩;obtain ⟨U2,u2,ev27⟩:=Kd.R_slice ho;subst ev27;have HU2_27:=Aside0.mk ho;have HU0_27:=Aside0.mk (Kd.S_below HU0_26.out hb);have HU1_27:=Aside0.mk (Kd.R_below HU1_26.out hb);have ML27:=Aside0.mk (ML26.out.below hb);have HY27:=Aside0.mk (Kd.C_below HY26.out hb);have HB27:=Aside0.mk (HB26.out.trans (hb.mono HB26.out.size));clear hb ho)
  | (go_at_call 31;(with_reducible refine (impl_SubUnify.calls k U0 u0 s0 U1 u1 s1 U2 u2 s2 g gb w27 (Kd.S_reads' HU0_27.out).2.2 (Kd.S_reads' HU0_27.out).2.1 (Kd.R_reads' HU1_27.out).2.2 (Kd.R_reads' HU1_27.out).2.1 (Kd.R_reads' HU2_27.out).2.2 (Kd.R_reads' HU2_27.out).2.1 HG.out).mono ?_);rintro e w28 ⟨v28,rfl,ho,hb⟩;obtain ⟨AH,cH,ev28⟩:=Kd.S_slice ho;subst ev28;have HH:=Aside0.mk (Kd.S_reads' ho);have ML28:=Aside0.mk (ML27.out.below hb);have HY28:=Aside0.mk (Kd.C_below HY27.out hb);have HB28:=Aside0.mk (HB27.out.trans (hb.mono HB27.out.size));clear hb ho)
  | (go_at_call 27;(with_reducible refine (laws_eqSubBindS.calls k AH cH g AW cW x true w28 HH.out.2.2 HH.out.2.1 (Kd.S_reads' (AllL.i0 ML28.out)).2.2 (Kd.S_reads' (AllL.i0 ML28.out)).2.1 HE.out).mono ?_);rintro e w29 ⟨rfl,hb⟩;have ML29:=Aside0.mk (ML28.out.below hb);have HY29:=Aside0.mk (Kd.C_below HY28.out hb);have HB29:=Aside0.mk (HB28.out.trans (hb.mono HB28.out.size));clear hb)
  | (go_at_call 49;refine calls_of_args (args':=#[.slice AG y.length cG,.int .i64 1]) (by rw [HLY.out]) ?_;(with_reducible refine (laws_heldSubBindS.calls k AG cG y 1 q w29 HY29.out (HLY.out ▸ HCY.out) HQ.out).mono ?_);rintro e w30 ⟨rfl,hb⟩;have ML30:=Aside0.mk (ML29.out.below hb);have HY30:=Aside0.mk (Kd.C_below HY29.out hb);have HB30:=Aside0.mk (HB29.out.trans (hb.mono HB29.out.size));clear hb))
 go_ret
 exact ⟨rfl,HB30.out⟩

end Go.Proofs.YtlaicnoikeieeaaDoor.P
