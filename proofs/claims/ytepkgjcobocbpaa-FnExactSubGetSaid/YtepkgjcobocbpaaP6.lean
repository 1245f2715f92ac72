/- Contracts of functions of the program: each as a Lean function, and that its call does what that says; printed by cprint.py (this session) over print.py of the kit. Conditions: the hypotheses of each theorem. -/
import Derived.Test.YtepkgjcobocbpaaP0
import Derived.Test.YtepkgjcobocbpaaP1
import Derived.Test.YtepkgjcobocbpaaP2
import Derived.Test.YtepkgjcobocbpaaP3
import Derived.Test.YtepkgjcobocbpaaP4
import Derived.Test.YtepkgjcobocbpaaP5
namespace Go.Proofs.Ytepkgjcobocbpaa.P
open Go.RowKit Go.Proofs.YtepkgjcobocbpaaW.PrintWords Go.Proofs.YtepkgjcobocbpaaW.PrintLast Go.Proofs.YtepkgjcobocbpaaW.PrintMore
attribute [local go_sem] max2_int min2_int max_two min_two max_three min_three max_four min_four   -- for this text's walks alone
set_option linter.unusedVariables false
set_option linter.unusedSimpArgs false

/-! ### laws_FnExactSubGet: function 3 -/
/-- the law's one way: what it answers where all that it asks holds -/
def laws_FnExactSubGet.f (k:Nat) (l0:List Cat.Bind) (l1:Int):Option Bool:=
 (laws_szSubBindS.f k l0 1048576).bind fun t0=>if t0<0 then some true else 
 (laws_toSubBindS.f k l0).bind fun s0=>(spec_SubGet.f k s0 l1).bind fun x=>(impl_SubGet.f s0 l1).bind fun g=>
 (laws_eqTrmCellS.f k g x).bind fun e=>(laws_eqSubBindS.f k s0 s0).bind fun e0=>
 (laws_markSubBindS.f k s0 1).bind fun m0=>(laws_markTrmCellS.f k g 1).bind fun m=>(laws_heldTrmCellS.f k m.2 1).bind fun q=>
 if e=true∧e0=true∧0≤m0.1∧q=m.1∧0≤q then some true else none
section
variable {X0 X1 X2 : World → Prop} {W W' : World} {a0 a1 a2 a3 : Nat}
theorem laws_FnExactSubGet.mark1 (h:AllL [(X2,a2,a3),(X1,a1,a2),(X0,a0,a1)] W) (hk:Kept W W' (fun k=>a1≤k∧k<a2)) (h0:a0≤a1) (h1:a1≤a2) (h2:a2≤a3):AllL [(X2,a2,a3),(X0,a0,a1)] W':=by
 have x2:Loc X2 W a2 a3:=h _ (.head _)
 have x0:Loc X0 W a0 a1:=h.tail.tail _ (.head _)
 exact AllL.cons (x2.kept hk (fun k p r q=>by omega)) (AllL.cons (x0.kept hk (fun k p r q=>by omega)) (AllL.nil _))
theorem laws_FnExactSubGet.mark2 (h:AllL [(X2,a2,a3),(X0,a0,a1)] W) (hk:Kept W W' (fun k=>a2≤k∧k<a3)) (h0:a0≤a1) (h1:a1≤a2) (h2:a2≤a3):AllL [(X0,a0,a1)] W':=by
 have x0:Loc X0 W a0 a1:=h.tail _ (.head _)
 exact AllL.cons (x0.kept hk (fun k p r q=>by omega)) (AllL.nil _)
end
set_option maxHeartbeats 16000000 in
set_option maxRecDepth 100000 in
theorem laws_FnExactSubGet.calls (k:Nat) (A0:Option Addr) (c0:Nat) (l0:List (S36)) (l1:Int) (r:Bool) (w:World) (hr0:Kd.C k36 w A0 l0.length l0) (hc0:l0.length≤c0) (h:laws_FnExactSubGet.f k l0 l1=some r) :
  Calls Try.prog 3 #[.slice A0 l0.length c0,.int .i64 l1] w fun e w'=>e = .returned (.bool r)∧Below w.heap.size w w':=by
 unfold laws_FnExactSubGet.f at h
 have HR0:=Aside0.mk hr0
 clear hr0
 obtain ⟨t0,hs0,g1⟩:=Option.bind_eq_some_iff.1 h
 clear h
 have HS0:=Aside0.mk hs0
 clear hs0
 by_cases ht0:t0<0
 ·rw [if_pos ht0] at g1
  obtain rfl:=Option.some.inj g1
  clear g1
  go_enter Try.func3,Try.ntmps3
  go_wp2_with (first|(go_at_call 4;(with_reducible refine (laws_szSubBindS.calls k A0 c0 l0 1048576 t0 w HR0.out hc0 HS0.out).mono ?_);rintro e w1 ⟨rfl,hb⟩;have HB1:=Aside0.mk hb;clear hb))
  go_ret
  exact ⟨rfl,HB1.out⟩
 rw [if_neg ht0] at g1
 obtain ⟨s0,ha0,g2⟩:=Option.bind_eq_some_iff.1 g1
 clear g1
 have HA0:=Aside0.mk ha0
 clear ha0
 obtain ⟨x,hx,g3⟩:=Option.bind_eq_some_iff.1 g2
 clear g2
 have HX:=Aside0.mk hx
 clear hx
 obtain ⟨g,hg,g4⟩:=Option.bind_eq_some_iff.1 g3
 clear g3
 have HG:=Aside0.mk hg
 clear hg
 obtain ⟨e,he,g5⟩:=Option.bind_eq_some_iff.1 g4
 clear g4
 have HE:=Aside0.mk he
 clear he
 obtain ⟨e0,he0,g6⟩:=Option.bind_eq_some_iff.1 g5
 clear g5
 have HE0:=Aside0.mk he0
 clear he0
 obtain ⟨⟨m0,y0⟩,hm0,g7⟩:=Option.bind_eq_some_iff.1 g6
 clear g6
 have HM0:=Aside0.mk hm0
 clear hm0
 obtain ⟨⟨m,y⟩,hm,g8⟩:=Option.bind_eq_some_iff.1 g7
 clear g7
 have HM:=Aside0.mk hm
 clear hm
 obtain ⟨q,hq,g9⟩:=Option.bind_eq_some_iff.1 g8
 clear g8
 have HQ:=Aside0.mk hq
 clear hq
 by_cases hall:e=true∧e0=true∧0≤m0∧q=m∧0≤q
 case neg=>rw [if_neg hall] at g9;cases g9
 rw [if_pos hall] at g9
 obtain ⟨rfl,rfl,hml,rfl,hqq⟩:=hall
 obtain rfl:=Option.some.inj g9
 clear g9
 have hml':¬ m0<0:=by omega
 have hq':¬ q<0:=by omega
 clear hml hqq
 go_enter Try.func3,Try.ntmps3
 go_wp2_with (first
  | (go_at_call 4;(with_reducible refine (laws_szSubBindS.calls k A0 c0 l0 1048576 t0 w HR0.out hc0 HS0.out).mono ?_);rintro e w1 ⟨rfl,hb⟩;have HB1:=Aside0.mk hb;clear hb)
  | (go_at_call 6;(with_reducible refine (laws_toSubBindS.calls k A0 c0 l0 s0 w1 (Kd.C_below HR0.out HB1.out) hc0 HA0.out).mono ?_);rintro e w2 ⟨v2,rfl,ho,hb⟩;obtain ⟨T0,d0,ev2⟩:=Kd.S_slice ho;subst ev2;have HT0_2:=Aside0.mk ho;have HB2:=Aside0.mk (HB1.out.trans (hb.mono HB1.out.size));clear hb ho)
  | (go_at_call 5;(with_reducible refine (spec_SubGet.calls k T0 d0 s0 l1 x w2 (Kd.S_reads' HT0_2.out).2.2 (Kd.S_reads' HT0_2.out).2.1 HX.out).mono ?_);rintro e w3 ⟨v3,rfl,ho,hb⟩;obtain ⟨AW,cW,ev3⟩:=Kd.R_slice ho;subst ev3;have ML3:=Aside0.mk (AllL.cons (Loc.ofR ho HB2.out.size) (AllL.nil _));have HZ3:=Aside0.mk hb.size;have HB3:=Aside0.mk (HB2.out.trans (hb.mono HB2.out.size));clear hb ho)
  | (go_at_call 6;(with_reducible refine (laws_toSubBindS.calls k A0 c0 l0 s0 w3 (Kd.C_below HR0.out HB3.out) hc0 HA0.out).mono ?_);rintro e w4 ⟨v4,rfl,ho,hb⟩;obtain ⟨B0,b0,ev4⟩:=Kd.S_slice ho;subst ev4;have ML4:=Aside0.mk (AllL.cons (Loc.ofS ho HB3.out.size) (ML3.out.below hb));have HZ4:=Aside0.mk hb.size;have HB4:=Aside0.mk (HB3.out.trans (hb.mono HB3.out.size));clear hb ho)
  | (go_at_call 7;(with_reducible refine (impl_SubGet.calls B0 b0 s0 l1 g w4 (Kd.S_reads' (AllL.i0 ML4.out)).2.2 (Kd.S_reads' (AllL.i0 ML4.out)).2.1 HG.out).mono ?_);rintro e w5 ⟨v5,rfl,ho,hb⟩;obtain ⟨AG,cG,ev5⟩:=Kd.R_slice ho;subst ev5;have ML5:=Aside0.mk (AllL.cons (Loc.ofR ho HB4.out.size) (ML4.out.below hb));have HZ5:=Aside0.mk hb.size;have HB5:=Aside0.mk (HB4.out.trans (hb.mono HB4.out.size));clear hb ho)
  | (go_at_call 8;(with_reducible refine (laws_eqTrmCellS.calls k AG cG g AW cW x true w5 (Kd.R_reads' (AllL.i0 ML5.out)).2.2 (Kd.R_reads' (AllL.i0 ML5.out)).2.1 (Kd.R_reads' (AllL.i2 ML5.out)).2.2 (Kd.R_reads' (AllL.i2 ML5.out)).2.1 HE.out).mono ?_);rintro e w6 ⟨rfl,hb⟩;have ML6:=Aside0.mk (ML5.out.below hb);have HB6:=Aside0.mk (HB5.out.trans (hb.mono HB5.out.size));clear hb)
  | (go_at_call 6;(with_reducible refine (laws_toSubBindS.calls k A0 c0 l0 s0 w6 (Kd.C_below HR0.out HB6.out) hc0 HA0.out).mono ?_);rintro e w7 ⟨v7,rfl,ho,hb⟩;obtain ⟨C0,f0,ev7⟩:=Kd.S_slice ho;subst ev7;have HC0:=Aside0.mk (Kd.S_reads' ho);have ML7:=Aside0.mk (ML6.out.below hb);have HB7:=Aside0.mk (HB6.out.trans (hb.mono HB6.out.size));clear hb ho)
  | (go_at_call 9;(with_reducible refine (laws_eqSubBindS.calls k B0 b0 s0 C0 f0 s0 true w7 (Kd.S_reads' (AllL.i1 ML7.out)).2.2 (Kd.S_reads' (AllL.i1 ML7.out)).2.1 HC0.out.2.2 HC0.out.2.1 HE0.out).mono ?_);rintro e w8 ⟨rfl,hb⟩;have ML8:=Aside0.mk (ML7.out.below hb);have HB8:=Aside0.mk (HB7.out.trans (hb.mono HB7.out.size));clear hb)
  | (go_at_call 10;(with_reducible refine (laws_markSubBindS.calls k (fun k=>w3.heap.size≤k∧k<w4.heap.size) (.slice B0 s0.length b0) s0 1 m0 y0 w w8 HB8.out (AllL.i1 ML8.out) HM0.out).mono ?_);rintro e w9 ⟨rfl,_,hb,hk⟩;have HB9:=Aside0.mk hb;have ML9:=Aside0.mk (laws_FnExactSubGet.mark1 ML8.out hk HZ3.out HZ4.out HZ5.out);clear hb hk)
  | (go_at_call 8;(with_reducible refine (laws_eqTrmCellS.calls k AG cG g AW cW x true w9 (Kd.R_reads' (AllL.i0 ML9.out)).2.2 (Kd.R_reads' (AllL.i0 ML9.out)).2.1 (Kd.R_reads' (AllL.i1 ML9.out)).2.2 (Kd.R_reads' (AllL.i1 ML9.out)).2.1 HE.out).mono ?_);rintro e w10 ⟨rfl,hb⟩;have ML10:=Aside0.mk (ML9.out.below hb);have HB10:=Aside0.mk (HB9.out.trans (hb.mono HB9.out.size));clear hb)
  | (go_at_call 11;(with_reducible refine (laws_markTrmCellS.calls k (fun k=>w4.heap.size≤k∧k<w5.heap.size) (.slice AG g.length cG) g 1 q y w w10 HB10.out (AllL.i0 ML10.out) HM.out).mono ?_);rintro e w11 ⟨rfl,hr,hb,hk⟩;have HB11:=Aside0.mk hb;have ML11:=Aside0.mk (laws_FnExactSubGet.mark2 ML10.out hk HZ3.out HZ4.out HZ5.out);have HY11:=Aside0.mk (Kd.R_reads' hr).2.2;have HLY:=Aside0.mk (Kd.R_reads' hr).1;have HCY:=Aside0.mk (Kd.R_reads' hr).2.1;clear hr hb hk)
  | (go_at_call 12;refine calls_of_args (args':=#[.slice AG y.length cG,.int .i64 1]) (by rw [HLY.out]) ?_;(with_reducible refine (laws_heldTrmCellS.calls k AG cG y 1 q w11 HY11.out (HLY.out ▸ HCY.out) HQ.out).mono ?_);rintro e w12 ⟨rfl,hb⟩;have ML12:=Aside0.mk (ML11.out.below hb);have HY12:=Aside0.mk (Kd.C_below HY11.out hb);have HB12:=Aside0.mk (HB11.out.trans (hb.mono HB11.out.size));clear hb)
  | (go_at_call 6;(with_reducible refine (laws_toSubBindS.calls k A0 c0 l0 s0 w12 (Kd.C_below HR0.out HB12.out) hc0 HA0.out).mono ?_);rintro e w13 ⟨v13,rfl,ho,hb⟩;obtain ⟨U0,u0,ev13⟩:=Kd.S_slice ho;subst ev13;have HU0_13:=Aside0.mk ho;have ML13:=Aside0.mk (ML12.out.below hb);have HY13:=Aside0.mk (Kd.C_below HY12.out hb);have HB13:=Aside0.mk (HB12.out.trans (hb.mono HB12.out.size));clear hb ho)
  | (go_at_call 7;(with_reducible refine (impl_SubGet.calls U0 u0 s0 l1 g w13 (Kd.S_reads' HU0_13.out).2.2 (Kd.S_reads' HU0_13.out).2.1 HG.out).mono ?_);rintro e w14 ⟨v14,rfl,ho,hb⟩;obtain ⟨AH,cH,ev14⟩:=Kd.R_slice ho;subst ev14;have HH:=Aside0.mk (Kd.R_reads' ho);have ML14:=Aside0.mk (ML13.out.below hb);have HY14:=Aside0.mk (Kd.C_below HY13.out hb);have HB14:=Aside0.mk (HB13.out.trans (hb.mono HB13.out.size));clear hb ho)
  | (go_at_call 8;(with_reducible refine (laws_eqTrmCellS.calls k AH cH g AW cW x true w14 HH.out.2.2 HH.out.2.1 (Kd.R_reads' (AllL.i0 ML14.out)).2.2 (Kd.R_reads' (AllL.i0 ML14.out)).2.1 HE.out).mono ?_);rintro e w15 ⟨rfl,hb⟩;have ML15:=Aside0.mk (ML14.out.below hb);have HY15:=Aside0.mk (Kd.C_below HY14.out hb);have HB15:=Aside0.mk (HB14.out.trans (hb.mono HB14.out.size));clear hb)
  | (go_at_call 12;refine calls_of_args (args':=#[.slice AG y.length cG,.int .i64 1]) (by rw [HLY.out]) ?_;(with_reducible refine (laws_heldTrmCellS.calls k AG cG y 1 q w15 HY15.out (HLY.out ▸ HCY.out) HQ.out).mono ?_);rintro e w16 ⟨rfl,hb⟩;have ML16:=Aside0.mk (ML15.out.below hb);have HY16:=Aside0.mk (Kd.C_below HY15.out hb);have HB16:=Aside0.mk (HB15.out.trans (hb.mono HB15.out.size));clear hb))
 go_ret
 exact ⟨rfl,HB16.out⟩

end Go.Proofs.Ytepkgjcobocbpaa.P
