/- Contracts of functions of the program: each as a Lean function, and that its call does what that says; printed by cprint.py (this session) over print.py of the kit. Conditions: the hypotheses of each theorem. -/
import Derived.Test.YtlaicnoikeieeaaDoorP0
import Derived.Test.YtlaicnoikeieeaaDoorP5
import Derived.Test.YtlaicnoikeieeaaDoorP8
import Derived.Test.YtlaicnoikeieeaaDoorP9
import Derived.Test.YtlaicnoikeieeaaDoorP10
import Derived.Test.YtlaicnoikeieeaaDoorP11
import Derived.Test.YtlaicnoikeieeaaDoorP12
namespace Go.Proofs.YtlaicnoikeieeaaDoor.P
open Go.RowKit Go.Proofs.YtlaicnoikeieeaaDoorW.PrintWords Go.Proofs.YtlaicnoikeieeaaDoorW.PrintLast Go.Proofs.YtlaicnoikeieeaaDoorW.PrintMore
attribute [local go_sem] max2_int min2_int max_two min_two max_three min_three max_four min_four   -- for this text's walks alone
set_option linter.unusedVariables false
set_option linter.unusedSimpArgs false

/-! ### laws_FnExactSubFull: function 7 -/
/-- the law's one way: what it answers where all that it asks holds -/
def laws_FnExactSubFull.f (k:Nat) (l0:List Cat.Bind) (l1:List Cat.Cell):Option Bool:=
 (laws_szSubBindS.f k l0 1048576).bind fun t0=>if t0<0 then some true else (laws_szTrmCellS.f k l1 t0).bind fun t1=>if t1<0 then some true else 
 (laws_toSubBindS.f k l0).bind fun s0=>(laws_toTrmCellS.f k l1).bind fun s1=>(spec_SubFull.f k s0 s1).bind fun x=>(impl_SubFull.f k s0 s1).bind fun g=>
 (laws_eqTrmCellS.f k g.1 x.1).bind fun e=>(laws_eqSubBindS.f k s0 s0).bind fun e0=>(laws_eqTrmCellS.f k s1 s1).bind fun e1=>
 (laws_markSubBindS.f k s0 1).bind fun m0=>(laws_markTrmCellS.f k s1 m0.1).bind fun m1=>(laws_markTrmCellS.f k g.1 1).bind fun m=>(laws_heldTrmCellS.f k m.2 1).bind fun q=>
 if e=true∧g.2=x.2∧e0=true∧e1=true∧0≤m1.1∧q=m.1∧0≤q then some true else none
section
variable {X0 X1 X2 X3 : World → Prop} {W W' : World} {a0 a1 a2 a3 a4 : Nat}
theorem laws_FnExactSubFull.mark1 (h:AllL [(X3,a3,a4),(X2,a2,a3),(X1,a1,a2),(X0,a0,a1)] W) (hk:Kept W W' (fun k=>a1≤k∧k<a2)) (h0:a0≤a1) (h1:a1≤a2) (h2:a2≤a3) (h3:a3≤a4):AllL [(X3,a3,a4),(X2,a2,a3),(X0,a0,a1)] W':=by
 have x3:Loc X3 W a3 a4:=h _ (.head _)
 have x2:Loc X2 W a2 a3:=h.tail _ (.head _)
 have x0:Loc X0 W a0 a1:=h.tail.tail.tail _ (.head _)
 exact AllL.cons (x3.kept hk (fun k p r q=>by omega)) (AllL.cons (x2.kept hk (fun k p r q=>by omega)) (AllL.cons (x0.kept hk (fun k p r q=>by omega)) (AllL.nil _)))
theorem laws_FnExactSubFull.mark2 (h:AllL [(X3,a3,a4),(X2,a2,a3),(X0,a0,a1)] W) (hk:Kept W W' (fun k=>a2≤k∧k<a3)) (h0:a0≤a1) (h1:a1≤a2) (h2:a2≤a3) (h3:a3≤a4):AllL [(X3,a3,a4),(X0,a0,a1)] W':=by
 have x3:Loc X3 W a3 a4:=h _ (.head _)
 have x0:Loc X0 W a0 a1:=h.tail.tail _ (.head _)
 exact AllL.cons (x3.kept hk (fun k p r q=>by omega)) (AllL.cons (x0.kept hk (fun k p r q=>by omega)) (AllL.nil _))
theorem laws_FnExactSubFull.mark3 (h:AllL [(X3,a3,a4),(X0,a0,a1)] W) (hk:Kept W W' (fun k=>a3≤k∧k<a4)) (h0:a0≤a1) (h1:a1≤a2) (h2:a2≤a3) (h3:a3≤a4):AllL [(X0,a0,a1)] W':=by
 have x0:Loc X0 W a0 a1:=h.tail _ (.head _)
 exact AllL.cons (x0.kept hk (fun k p r q=>by omega)) (AllL.nil _)
end
set_option maxHeartbeats 16000000 in
set_option maxRecDepth 100000 in
theorem laws_FnExactSubFull.calls (k:Nat) (A0:Option Addr) (c0:Nat) (l0:List (S72)) (A1:Option Addr) (c1:Nat) (l1:List (S90)) (r:Bool) (w:World) (hr0:Kd.C k72 w A0 l0.length l0) (hc0:l0.length≤c0) (hr1:Kd.C k90 w A1 l1.length l1) (hc1:l1.length≤c1) (h:laws_FnExactSubFull.f k l0 l1=some r) :
  Calls Tryd.prog 7 #[.slice A0 l0.length c0,.slice A1 l1.length c1] w fun e w'=>e = .returned (.bool r)∧Below w.heap.size w w':=by
 unfold laws_FnExactSubFull.f at h
 have HR0:=Aside0.mk hr0
 clear hr0
 have HR1:=Aside0.mk hr1
 clear hr1
 obtain ⟨t0,hs0,g1⟩:=Option.bind_eq_some_iff.1 h
 clear h
 have HS0:=Aside0.mk hs0
 clear hs0
 by_cases ht0:t0<0
 ·rw [if_pos ht0] at g1
  obtain rfl:=Option.some.inj g1
  clear g1
  go_enter Tryd.func7,Tryd.ntmps7
  go_wp2_with (first|(go_at_call 23;(with_reducible refine (laws_szSubBindS.calls k A0 c0 l0 1048576 t0 w HR0.out hc0 HS0.out).mono ?_);rintro e w1 ⟨rfl,hb⟩;have HB1:=Aside0.mk hb;clear hb))
  go_ret
  exact ⟨rfl,HB1.out⟩
 rw [if_neg ht0] at g1
 obtain ⟨t1,hs1,g2⟩:=Option.bind_eq_some_iff.1 g1
 clear g1
 have HS1:=Aside0.mk hs1
 clear hs1
 by_cases ht1:t1<0
 ·rw [if_pos ht1] at g2
  obtain rfl:=Option.some.inj g2
  clear g2
  go_enter Tryd.func7,Tryd.ntmps7
  go_wp2_with (first|(go_at_call 23;(with_reducible refine (laws_szSubBindS.calls k A0 c0 l0 1048576 t0 w HR0.out hc0 HS0.out).mono ?_);rintro e w1 ⟨rfl,hb⟩;have HB1:=Aside0.mk hb;clear hb)|(go_at_call 33;(with_reducible refine (laws_szTrmCellS.calls k A1 c1 l1 t0 t1 w1 (Kd.C_below HR1.out HB1.out) hc1 HS1.out).mono ?_);rintro e w2 ⟨rfl,hb⟩;have HB2:=Aside0.mk (HB1.out.trans (hb.mono HB1.out.size));clear hb))
  go_ret
  exact ⟨rfl,HB2.out⟩
 rw [if_neg ht1] at g2
 obtain ⟨s0,ha0,g3⟩:=Option.bind_eq_some_iff.1 g2
 clear g2
 have HA0:=Aside0.mk ha0
 clear ha0
 obtain ⟨s1,ha1,g4⟩:=Option.bind_eq_some_iff.1 g3
 clear g3
 have HA1:=Aside0.mk ha1
 clear ha1
 obtain ⟨⟨x,xb⟩,hx,g5⟩:=Option.bind_eq_some_iff.1 g4
 clear g4
 have HX:=Aside0.mk hx
 clear hx
 obtain ⟨⟨g,gb⟩,hg,g6⟩:=Option.bind_eq_some_iff.1 g5
 clear g5
 have HG:=Aside0.mk hg
 clear hg
 obtain ⟨e,he,g7⟩:=Option.bind_eq_some_iff.1 g6
 clear g6
 have HE:=Aside0.mk he
 clear he
 obtain ⟨e0,he0,g8⟩:=Option.bind_eq_some_iff.1 g7
 clear g7
 have HE0:=Aside0.mk he0
 clear he0
 obtain ⟨e1,he1,g9⟩:=Option.bind_eq_some_iff.1 g8
 clear g8
 have HE1:=Aside0.mk he1
 clear he1
 obtain ⟨⟨m0,y0⟩,hm0,g10⟩:=Option.bind_eq_some_iff.1 g9
 clear g9
 have HM0:=Aside0.mk hm0
 clear hm0
 obtain ⟨⟨m1,y1⟩,hm1,g11⟩:=Option.bind_eq_some_iff.1 g10
 clear g10
 have HM1:=Aside0.mk hm1
 clear hm1
 obtain ⟨⟨m,y⟩,hm,g12⟩:=Option.bind_eq_some_iff.1 g11
 clear g11
 have HM:=Aside0.mk hm
 clear hm
 obtain ⟨q,hq,g13⟩:=Option.bind_eq_some_iff.1 g12
 clear g12
 have HQ:=Aside0.mk hq
 clear hq
 by_cases hall:e=true∧gb=xb∧e0=true∧e1=true∧0≤m1∧q=m∧0≤q
 case neg=>rw [if_neg hall] at g13;cases g13
 rw [if_pos hall] at g13
 obtain ⟨rfl,rfl,rfl,rfl,hml,rfl,hqq⟩:=hall
 obtain rfl:=Option.some.inj g13
 clear g13
 have hml':¬ m1<0:=by omega
 have hq':¬ q<0:=by omega
 clear hml hqq
 go_enter Tryd.func7,Tryd.ntmps7
 go_wp2_with (first
  | (go_at_call 23;(with_reducible refine (laws_szSubBindS.calls k A0 c0 l0 1048576 t0 w HR0.out hc0 HS0.out).mono ?_);rintro e w1 ⟨rfl,hb⟩;have HB1:=Aside0.mk hb;clear hb)
  | (go_at_call 33;(with_reducible refine (laws_szTrmCellS.calls k A1 c1 l1 t0 t1 w1 (Kd.C_below HR1.out HB1.out) hc1 HS1.out).mono ?_);rintro e w2 ⟨rfl,hb⟩;have HB2:=Aside0.mk (HB1.out.trans (hb.mono HB1.out.size));clear hb)
  | (go_at_call 25;(with_reducible refine (laws_toSubBindS.calls k A0 c0 l0 s0 w2 (Kd.C_below HR0.out HB2.out) hc0 HA0.out).mono ?_);rintro e w3 ⟨v3,rfl,ho,hb⟩;obtain ⟨T0,d0,ev3⟩:=Kd.S_slice ho;subst ev3;have HT0_3:=Aside0.mk ho;have HB3:=Aside0.mk (HB2.out.trans (hb.mono HB2.out.size));clear hb ho)
  | (go_at_call 35;(with_reducible refine (laws_toTrmCellS.calls k A1 c1 l1 s1 w3 (Kd.C_below HR1.out HB3.out) hc1 HA1.out).mono ?_);rintro e w4 ⟨v4,rfl,ho,hb⟩;obtain ⟨T1,d1,ev4⟩:=Kd.R_slice ho;subst ev4;have HT1_4:=Aside0.mk ho;have HT0_4:=Aside0.mk (Kd.S_below HT0_3.out hb);have HB4:=Aside0.mk (HB3.out.trans (hb.mono HB3.out.size));clear hb ho)
  | (go_at_call 34;(with_reducible refine (spec_SubFull.calls k T0 d0 s0 T1 d1 s1 x gb w4 (Kd.S_reads' HT0_4.out).2.2 (Kd.S_reads' HT0_4.out).2.1 (Kd.R_reads' HT1_4.out).2.2 (Kd.R_reads' HT1_4.out).2.1 HX.out).mono ?_);rintro e w5 ⟨v5,rfl,ho,hb⟩;obtain ⟨AW,cW,ev5⟩:=Kd.R_slice ho;subst ev5;have ML5:=Aside0.mk (AllL.cons (Loc.ofR ho HB4.out.size) (AllL.nil _));have HZ5:=Aside0.mk hb.size;have HB5:=Aside0.mk (HB4.out.trans (hb.mono HB4.out.size));clear hb ho)
  | (go_at_call 25;(with_reducible refine (laws_toSubBindS.calls k A0 c0 l0 s0 w5 (Kd.C_below HR0.out HB5.out) hc0 HA0.out).mono ?_);rintro e w6 ⟨v6,rfl,ho,hb⟩;obtain ⟨B0,b0,ev6⟩:=Kd.S_slice ho;subst ev6;have ML6:=Aside0.mk (AllL.cons (Loc.ofS ho HB5.out.size) (ML5.out.below hb));have HZ6:=Aside0.mk hb.size;have HB6:=Aside0.mk (HB5.out.trans (hb.mono HB5.out.size));clear hb ho)
  | (go_at_call 35;(with_reducible refine (laws_toTrmCellS.calls k A1 c1 l1 s1 w6 (Kd.C_below HR1.out HB6.out) hc1 HA1.out).mono ?_);rintro e w7 ⟨v7,rfl,ho,hb⟩;obtain ⟨B1,b1,ev7⟩:=Kd.R_slice ho;subst ev7;have ML7:=Aside0.mk (AllL.cons (Loc.ofR ho HB6.out.size) (ML6.out.below hb));have HZ7:=Aside0.mk hb.size;have HB7:=Aside0.mk (HB6.out.trans (hb.mono HB6.out.size));clear hb ho)
  | (go_at_call 36;(with_reducible refine (impl_SubFull.calls k B0 b0 s0 B1 b1 s1 g gb w7 (Kd.S_reads' (AllL.i1 ML7.out)).2.2 (Kd.S_reads' (AllL.i1 ML7.out)).2.1 (Kd.R_reads' (AllL.i0 ML7.out)).2.2 (Kd.R_reads' (AllL.i0 ML7.out)).2.1 HG.out).mono ?_);rintro e w8 ⟨v8,rfl,ho,hb⟩;obtain ⟨AG,cG,ev8⟩:=Kd.R_slice ho;subst ev8;have ML8:=Aside0.mk (AllL.cons (Loc.ofR ho HB7.out.size) (ML7.out.below hb));have HZ8:=Aside0.mk hb.size;have HB8:=Aside0.mk (HB7.out.trans (hb.mono HB7.out.size));clear hb ho)
  | (go_at_call 37;(with_reducible refine (laws_eqTrmCellS.calls k AG cG g AW cW x true w8 (Kd.R_reads' (AllL.i0 ML8.out)).2.2 (Kd.R_reads' (AllL.i0 ML8.out)).2.1 (Kd.R_reads' (AllL.i3 ML8.out)).2.2 (Kd.R_reads' (AllL.i3 ML8.out)).2.1 HE.out).mono ?_);rintro e w9 ⟨rfl,hb⟩;have ML9:=Aside0.mk (ML8.out.below hb);have HB9:=Aside0.mk (HB8.out.trans (hb.mono HB8.out.size));clear hb)
  | (go_at_call 25;(with_reducible refine (laws_toSubBindS.calls k A0 c0 l0 s0 w9 (Kd.C_below HR0.out HB9.out) hc0 HA0.out).mono ?_);rintro e w10 ⟨v10,rfl,ho,hb⟩;obtain ⟨C0,f0,ev10⟩:=Kd.S_slice ho;subst ev10;have HC0:=Aside0.mk (Kd.S_reads' ho);have ML10:=Aside0.mk (ML9.out.below hb);have HB10:=Aside0.mk (HB9.out.trans (hb.mono HB9.out.size));clear hb ho)
  | (go_at_call 27;(with_reducible refine (laws_eqSubBindS.calls k B0 b0 s0 C0 f0 s0 true w10 (Kd.S_reads' (AllL.i2 ML10.out)).2.2 (Kd.S_reads' (AllL.i2 ML10.out)).2.1 HC0.out.2.2 HC0.out.2.1 HE0.out).mono ?_);rintro e w11 ⟨rfl,hb⟩;have ML11:=Aside0.mk (ML10.out.below hb);have HB11:=Aside0.mk (HB10.out.trans (hb.mono HB10.out.size));clear hb)
  | (go_at_call 35;(with_reducible refine (laws_toTrmCellS.calls k A1 c1 l1 s1 w11 (Kd.C_below HR1.out HB11.out) hc1 HA1.out).mono ?_);rintro e w12 ⟨v12,rfl,ho,hb⟩;obtain ⟨C1,f1,ev12⟩:=Kd.R_slice ho;subst ev12;have HC1:=Aside0.mk (Kd.R_reads' ho);have ML12:=Aside0.mk (ML11.out.below hb);have HB12:=Aside0.mk (HB11.out.trans (hb.mono HB11.out.size));clear hb ho)
  | (go_at_call 37;(with_reducible refine (laws_eqTrmCellS.calls k B1 b1 s1 C1 f1 s1 true w12 (Kd.R_reads' (AllL.i1 ML12.out)).2.2 (Kd.R_reads' (AllL.i1 ML12.out)).2.1 HC1.out.2.2 HC1.out.2.1 HE1.out).mono ?_);rintro e w13 ⟨rfl,hb⟩;have ML13:=Aside0.mk (ML12.out.below hb);have HB13:=Aside0.mk (HB12.out.trans (hb.mono HB12.out.size));clear hb)
  | (go_at_call 38;(with_reducible refine (laws_markSubBindS.calls k (fun k=>w5.heap.size≤k∧k<w6.heap.size) (.slice B0 s0.length b0) s0 1 m0 y0 w w13 HB13.out (AllL.i2 ML13.out) HM0.out).mono ?_);rintro e w14 ⟨rfl,_,hb,hk⟩;have HB14:=Aside0.mk hb;have ML14:=Aside0.mk (laws_FnExactSubFull.mark1 ML13.out hk HZ5.out HZ6.out HZ7.out HZ8.out);clear hb hk)
  | (go_at_call 39;(with_reducible refine (laws_markTrmCellS.calls k (fun k=>w6.heap.size≤k∧k<w7.heap.size) (.slice B1 s1.length b1) s1 m0 m1 y1 w w14 HB14.out (AllL.i1 ML14.out) HM1.out).mono ?_);rintro e w15 ⟨rfl,_,hb,hk⟩;have HB15:=Aside0.mk hb;have ML15:=Aside0.mk (laws_FnExactSubFull.mark2 ML14.out hk HZ5.out HZ6.out HZ7.out HZ8.out);clear hb hk)
  | (go_at_call 37;(with_reducible refine (laws_eqTrmCellS.calls k AG cG g AW cW x true w15 (Kd.R_reads' (AllL.i0 ML15.out)).2.2 (Kd.R_reads' (AllL.i0 ML15.out)).2.1 (Kd.R_reads' (AllL.i1 ML15.out)).2.2 (Kd.R_reads' (AllL.i1 ML15.out)).2.1 HE.out).mono ?_);rintro e w16 ⟨rfl,hb⟩;have ML16:=Aside0.mk (ML15.out.below hb);have HB16:=Aside0.mk (HB15.out.trans (hb.mono HB15.out.size));clear hb)
  | (go_at_call 39;(with_reducible refine (laws_markTrmCellS.calls k (fun k=>w7.heap.size≤k∧k<w8.heap.size) (.slice AG g.length cG) g 1 q y w w16 HB16.out (AllL.i0 ML16.out) HM.out).mono ?_);rintro e w17 ⟨rfl,hr,hb,hk⟩;have HB17:=Aside0.mk hb;have ML17:=Aside0.mk (laws_FnExactSubFull.mark3 ML16.out hk HZ5.out HZ6.out HZ7.out HZ8.out);have HY17:=Aside0.mk (Kd.R_reads' hr).2.2;have HLY:=Aside0.mk (Kd.R_reads' hr).1;have HCY:=Aside0.mk (Kd.R_reads' hr).2.1;clear hr hb hk)
  | (go_at_call 40;refine calls_of_args (args':=#[.slice AG y.length cG,.int .i64 1]) (by rw [HLY.out]) ?_;(with_reducible refine (laws_heldTrmCellS.calls k AG cG y 1 q w17 HY17.out (HLY.out ▸ HCY.out) HQ.out).mono ?_);rintro e w18 ⟨rfl,hb⟩;have ML18:=Aside0.mk (ML17.out.below hb);have HY18:=Aside0.mk (Kd.C_below HY17.out hb);have HB18:=Aside0.mk (HB17.out.trans (hb.mono HB17.out.size));clear hb)
  | (go_at_call 25;(with_reducible refine (laws_toSubBindS.calls k A0 c0 l0 s0 w18 (Kd.C_below HR0.out HB18.out) hc0 HA0.out).mono ?_);rintro e w19 ⟨v19,rfl,ho,hb⟩;obtain ⟨U0,u0,ev19⟩:=Kd.S_slice ho;subst ev19;have HU0_19:=Aside0.mk ho;have ML19:=Aside0.mk (ML18.out.below hb);have HY19:=Aside0.mk (Kd.C_below HY18.out hb);have HB19:=Aside0.mk (HB18.out.trans (hb.mono HB18.out.size));clear hb ho)
  | (go_at_call 35;(with_reducible refine (laws_toTrmCellS.calls k A1 c1 l1 s1 w19 (Kd.C_below HR1.out HB19.out) hc1 HA1.out).mono ?_);rintro e w20 ⟨v20,rfl,ho,hb⟩;obtain ⟨U1,u1,ev20⟩:=Kd.R_slice ho;subst ev20;have HU1_20:=Aside0.mk ho;have HU0_20:=Aside0.mk (Kd.S_below HU0_19.out hb);have ML20:=Aside0.mk (ML19.out.below hb);have HY20:=Aside0.mk (Kd.C_below HY19.out hb);have HB20:=Aside0.mk (HB19.out.trans (hb.mono HB19.out.size));clear hb ho)
  | (go_at_call 36;(with_reducible refine (impl_SubFull.calls k U0 u0 s0 U1 u1 s1 g gb w20 (Kd.S_reads' HU0_20.out).2.2 (Kd.S_reads' HU0_20.out).2.1 (Kd.R_reads' HU1_20.out).2.2 (Kd.R_reads' HU1_20.out).2.1 HG.out).mono ?_);rintro e w21 ⟨v21,rfl,ho,hb⟩;obtain ⟨AH,cH,ev21⟩:=Kd.R_slice ho;subst ev21;have HH:=Aside0.mk (Kd.R_reads' ho);have ML21:=Aside0.mk (ML20.out.below hb);have HY21:=Aside0.mk (Kd.C_below HY20.out hb);have HB21:=Aside0.mk (HB20.out.trans (hb.mono HB20.out.size));clear hb ho)
  | (go_at_call 37;(with_reducible refine (laws_eqTrmCellS.calls k AH cH g AW cW x true w21 HH.out.2.2 HH.out.2.1 (Kd.R_reads' (AllL.i0 ML21.out)).2.2 (Kd.R_reads' (AllL.i0 ML21.out)).2.1 HE.out).mono ?_);rintro e w22 ⟨rfl,hb⟩;have ML22:=Aside0.mk (ML21.out.below hb);have HY22:=Aside0.mk (Kd.C_below HY21.out hb);have HB22:=Aside0.mk (HB21.out.trans (hb.mono HB21.out.size));clear hb)
  | (go_at_call 40;refine calls_of_args (args':=#[.slice AG y.length cG,.int .i64 1]) (by rw [HLY.out]) ?_;(with_reducible refine (laws_heldTrmCellS.calls k AG cG y 1 q w22 HY22.out (HLY.out ▸ HCY.out) HQ.out).mono ?_);rintro e w23 ⟨rfl,hb⟩;have ML23:=Aside0.mk (ML22.out.below hb);have HY23:=Aside0.mk (Kd.C_below HY22.out hb);have HB23:=Aside0.mk (HB22.out.trans (hb.mono HB22.out.size));clear hb))
 go_ret
 exact ⟨rfl,HB23.out⟩

end Go.Proofs.YtlaicnoikeieeaaDoor.P
