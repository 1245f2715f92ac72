/- Contracts of functions of the program: each as a Lean function, and that its call does what that says; printed by cprint.py (this session) over print.py of the kit. Conditions: the hypotheses of each theorem. -/
import Derived.Test.YtibencknfheplaaDoorVZ
import Derived.Test.YtibencknfheplaaDoorP0
import Derived.Test.YtibencknfheplaaDoorP8
import Derived.Test.YtibencknfheplaaDoorP9
import Derived.Test.YtibencknfheplaaDoorP10
namespace Go.Proofs.YtibencknfheplaaDoor.P
open Go.RowKit Go.Proofs.YtibencknfheplaaDoorW.PrintWords Go.Proofs.YtibencknfheplaaDoorW.PrintLast Go.Proofs.YtibencknfheplaaDoorW.PrintMore
attribute [local go_sem] max2_int min2_int max_two min_two max_three min_three max_four min_four   -- for this text's walks alone
set_option linter.unusedVariables false
set_option linter.unusedSimpArgs false

/-! ### spec_l20TermOr: function 25 -/
def spec_l20TermOr.f (k:Nat) (s0_0:List Int) (s0_1:Int) (a1:Int):Option ((List (S34)) × Int):=(some (([3,8,20,40]:List Int):List Int)).bind fun y261=>((spec_l20Rd_pick.f k s0_0 s0_1 4).bind fun bt264=>(if 0≤bt264.1 then (if bt264.1<(y261.length:Int) then ((spec_l20Term.f k s0_0 bt264.2 (rd y261 bt264.1) 4).bind fun bt267=>((spec_l20Rd_odd.f k s0_0 bt267.2 a1).bind fun bt271=>(if bt271.1=true then ((spec_l20Spoil.f k s0_0 bt271.2 bt267.1).bind fun bt273=>(some (bt273.1,bt273.2))) else (some (bt267.1,bt271.2))))) else (none)) else (none)))
set_option maxHeartbeats 8000000 in
set_option maxRecDepth 100000 in
theorem spec_l20TermOr.calls (k:Nat) (g:Nat) (s0_0:List Int) (s0_1:Int) (a1:Int) (r1:List (S34)) (r2:Int) (w0 w:World) (hI:IsS77 w0 w g s0_0 s0_1) (hB:Below w0.heap.size w0 w) (h:spec_l20TermOr.f k s0_0 s0_1 a1=some (r1,r2)) :
  Calls Tryd.prog 25 #[.pointer (some ⟨g,0,none⟩),.int .i64 a1] w fun e w'=>∃ v0_:Value,e = .returned (v0_)∧Kd.R k34 34 w' w.heap.size (fun _=>True) v0_ r1∧IsS77 w0 w' g s0_0 r2∧Below w0.heap.size w0 w'∧KeepBut w w' g none:=by
 have HI0:=Aside0.mk hI
 have HK:=Aside0.mk (KeepBut.refl w g none)
 have HL:=Aside0.mk hB.size
 clear hI
 have HW0:=Aside0.mk hB.size
 have HB:=Aside0.mk hB
 clear hB
 have H:((some (([3,8,20,40]:List Int):List Int)).bind fun y261=>((spec_l20Rd_pick.f k s0_0 s0_1 4).bind fun bt264=>(if 0≤bt264.1 then (if bt264.1<(y261.length:Int) then ((spec_l20Term.f k s0_0 bt264.2 (rd y261 bt264.1) 4).bind fun bt267=>((spec_l20Rd_odd.f k s0_0 bt267.2 a1).bind fun bt271=>(if bt271.1=true then ((spec_l20Spoil.f k s0_0 bt271.2 bt267.1).bind fun bt273=>(some (bt273.1,bt273.2))) else (some (bt267.1,bt271.2))))) else (none)) else (none))))=some (r1,r2):=h
 clear h
 obtain ⟨y261,hy261⟩:∃ y_:List Int,y_=(([3,8,20,40]:List Int)):=⟨_,rfl⟩
 replace H:((spec_l20Rd_pick.f k s0_0 s0_1 4).bind fun bt264=>(if 0≤bt264.1 then (if bt264.1<(y261.length:Int) then ((spec_l20Term.f k s0_0 bt264.2 (rd y261 bt264.1) 4).bind fun bt267=>((spec_l20Rd_odd.f k s0_0 bt267.2 a1).bind fun bt271=>(if bt271.1=true then ((spec_l20Spoil.f k s0_0 bt271.2 bt267.1).bind fun bt273=>(some (bt273.1,bt273.2))) else (some (bt267.1,bt271.2))))) else (none)) else (none)))=some (r1,r2):=by first|(rw [hy261];exact H)|exact H
 have Ny261:=Aside0.mk hy261
 clear hy261
 replace H:=Option.bind_eq_some_iff.mp H
 obtain ⟨⟨t264,t265⟩,A30,H⟩:=H
 try dsimp only at H
 have A3:=Aside0.mk A30
 clear A30
 by_cases c4:0≤t264
 ·rw [if_pos c4] at H
  have c4b0:decide (0≤t264)=true:=decide_eq_true c4
  clear c4
  by_cases c5:t264<(y261.length:Int)
  ·rw [if_pos c5] at H
   have c5b0:decide (t264<(y261.length:Int))=true:=decide_eq_true c5
   clear c5
   replace H:=Option.bind_eq_some_iff.mp H
   obtain ⟨⟨t267,t270⟩,A60,H⟩:=H
   try dsimp only at H
   have A6:=Aside0.mk A60
   clear A60
   replace H:=Option.bind_eq_some_iff.mp H
   obtain ⟨⟨t271,t272⟩,A70,H⟩:=H
   try dsimp only at H
   have A7:=Aside0.mk A70
   clear A70
   by_cases c8:t271=true
   ·subst c8
    have H1:((spec_l20Spoil.f k s0_0 t272 t267).bind fun bt273=>(some (bt273.1,bt273.2)))=some (r1,r2):=qz35
    clear H
    have H:=H1
    clear H1
    replace H:=Option.bind_eq_some_iff.mp H
    obtain ⟨⟨t273,t276⟩,A90,H⟩:=H
    try dsimp only at H
    have A9:=Aside0.mk A90
    clear A90
    simp only [Option.some.injEq,Prod.mk.injEq] at H
    obtain ⟨rfl,rfl⟩:=H
    go_enter Tryd.func25,Tryd.ntmps25
    go_wp2_with (first|((with_reducible refine gate_dst (N:=7) rfl ?_);refine Kd.R_lit (Kd.int .i64) _ 3 ?hg (N:=7) ?hd (xs:=([3,8,20,40]:List Int)) (inner:=[.int .i64 3,.int .i64 8,.int .i64 20,.int .i64 40]) (ok:=fun _=>True) (okp:=fun _=>True) ?hr ?hp (fun _ hk=>hk) trivial (Below.refl _ _) (Nat.le_refl _) (by simp) ?_;(case hd=>rfl);(case hg=>rfl);(case hr=>first|(go_simp;done)|(go_simp;rfl));(case hp=>exact (Reps.one (show Kd.M (Kd.int .i64) _ _ _ 3 [.int .i64 3] from rfl) (Reps.one (show Kd.M (Kd.int .i64) _ _ _ 8 [.int .i64 8] from rfl) (Reps.one (show Kd.M (Kd.int .i64) _ _ _ 20 [.int .i64 20] from rfl) (Reps.one (show Kd.M (Kd.int .i64) _ _ _ 40 [.int .i64 40] from rfl) (Reps.none _ _))))));intro v262 w10 ho11 hb hg_ hnew_;clear hg_ hnew_;(first|rw [← Ny261.out] at ho11|(simp only [Int.reduceToNat] at ho11;rw [← Ny261.out] at ho11));have n0_:=Aside0.mk (Kd.R_lower ho11 (keep_size (w:=w) (g:=g) (row:=none) qz2));have n1_:=Aside0.mk (IsS77.below qz1 hb);have n2_:=Aside0.mk (KeepBut.trans qz2 (KeepBut.of_below hb g none) (.inl rfl));have n3_:=Aside0.mk (below_step qz3 hb);clear HI0 HK HB;have HO263:=n0_;have HI0:=n1_;have HK:=n2_;have HB:=n3_;clear n0_ n1_ n2_ n3_ hb ho11)|((with_reducible refine gate_callee (f:=43) rfl ?_);refine goesL_ (some 9) rfl rfl Tryd.func43 (by kernel_rfl) rfl #[.pointer (some ⟨g,0,none⟩),.int .i64 4] rfl qz5 ?_;(with_reducible refine (spec_l20Rd_pick.calls k g s0_0 s0_1 4 t264 t265 w0 _ ?side1 ?side2 A3.out).mono ?_);(case side1=>exact qz1);(case side2=>exact qz3);rintro e w12 ⟨rfl,hi,hb,hk⟩;refine ⟨_,rfl,?_⟩;have n0_:=Aside0.mk (Kd.R_mono (Kd.R_keep (IsS77.apart (show IsS77 w0 _ g s0_0 s0_1 from qz1) qz31 (by decide)) hk (fun _ h=>h.2)) (fun _ h=>h.1));have n1_:=Aside0.mk (KeepBut.trans qz2 hk (.inl rfl));have n2_:=Aside0.mk (hb);have n3_:=Aside0.mk (hi);clear HO263 HK HB HI0;have HO263:=n0_;have HK:=n1_;have HB:=n2_;have HI0:=n3_;clear n0_ n1_ n2_ n3_;(try clear hb);(try clear hb2);(try clear hk);(try clear hi);obtain ⟨Ao13,co13,eo13⟩:=Kd.R_slice HO263.out;subst eo13;have p266:0≤(t264:Int):=of_decide_eq_true qz6;have q266:t264<(y261.length:Int):=of_decide_eq_true qz6;obtain ⟨ad266,e266,hx266_0⟩:=Kd.at_int (Kd.R_reads' HO263.out).2.2 t264 p266 q266;cases e266;replace p266:=eq_true p266;replace q266:=eq_true q266)|((with_reducible refine gate_callee (f:=42) rfl ?_);refine goesL_ (some 12) rfl rfl Tryd.func42 (by kernel_rfl) rfl #[.pointer (some ⟨g,0,none⟩),.int .i64 (rd y261 t264),.int .i64 4] rfl qz5 ?_;(with_reducible refine (spec_l20Term.calls k g s0_0 t265 (rd y261 t264) 4 t267 t270 w0 _ ?side1 ?side2 A6.out).mono ?_);(case side1=>exact qz1);(case side2=>exact qz3);rintro e w14 ⟨v268,rfl,ho0,hi,hb,hk⟩;refine ⟨_,rfl,?_⟩;have n0_:=Aside0.mk (Kd.R_mono (Kd.R_keep (IsS77.apart (show IsS77 w0 _ g s0_0 t265 from qz1) qz31 (by decide)) hk (fun _ h=>h.2)) (fun _ h=>h.1));have n1_:=Aside0.mk (Kd.R_lower ho0 (keep_size (w:=w) (g:=g) (row:=none) qz2));have n2_:=Aside0.mk (KeepBut.trans qz2 hk (.inl rfl));have n3_:=Aside0.mk (hb);have n4_:=Aside0.mk (hi);clear HO263 HK HB HI0;have HO263:=n0_;have HO269:=n1_;have HK:=n2_;have HB:=n3_;have HI0:=n4_;clear n0_ n1_ n2_ n3_ n4_;(try clear hb);(try clear hb2);(try clear hk);(try clear hi);(try clear ho0))|((with_reducible refine gate_callee (f:=44) rfl ?_);refine goesL_ (some 15) rfl rfl Tryd.func44 (by kernel_rfl) rfl #[.pointer (some ⟨g,0,none⟩),.int .i64 a1] rfl qz5 ?_;(with_reducible refine (spec_l20Rd_odd.calls k g s0_0 t270 a1 true t272 w0 _ ?side1 ?side2 A7.out).mono ?_);(case side1=>exact qz1);(case side2=>exact qz3);rintro e w15 ⟨rfl,hi,hb,hk⟩;refine ⟨_,rfl,?_⟩;have n0_:=Aside0.mk (Kd.R_mono (Kd.R_keep (IsS77.apart (show IsS77 w0 _ g s0_0 t270 from qz1) qz31 (by decide)) hk (fun _ h=>h.2)) (fun _ h=>h.1));have n1_:=Aside0.mk (Kd.R_mono (Kd.R_keep (IsS77.apart (show IsS77 w0 _ g s0_0 t270 from qz1) qz34 (by decide)) hk (fun _ h=>h.2)) (fun _ h=>h.1));have n2_:=Aside0.mk (KeepBut.trans qz2 hk (.inl rfl));have n3_:=Aside0.mk (hb);have n4_:=Aside0.mk (hi);clear HO263 HO269 HK HB HI0;have HO263:=n0_;have HO269:=n1_;have HK:=n2_;have HB:=n3_;have HI0:=n4_;clear n0_ n1_ n2_ n3_ n4_;(try clear hb);(try clear hb2);(try clear hk);(try clear hi);obtain ⟨Ao16,co16,eo16⟩:=Kd.R_slice HO269.out;subst eo16)|((with_reducible refine gate_callee (f:=45) rfl ?_);refine goesL_ (some 18) rfl rfl Tryd.func45 (by kernel_rfl) rfl #[.pointer (some ⟨g,0,none⟩),.slice Ao16 t267.length co16] rfl qz5 ?_;(with_reducible refine (spec_l20Spoil.calls k g s0_0 t272 _ _ t267 t273 t276 w0 _ ?side1 ?side2 ?side3 ?side4 A9.out).mono ?_);(case side1=>exact qz1);(case side2=>exact qz3);(case side3=>exact Kd.C_foot_own (IsS77.apart (show IsS77 w0 _ g s0_0 t272 from qz1) qz34 (by decide)) (fun _ h_=>h_.2));(case side4=>exact (Kd.R_reads' HO269.out).2.1);rintro e w17 ⟨v274,rfl,ho0,hi,hb,hk⟩;refine ⟨_,rfl,?_⟩;have n0_:=Aside0.mk (Kd.R_mono (Kd.R_keep (IsS77.apart (show IsS77 w0 _ g s0_0 t272 from qz1) qz31 (by decide)) hk (fun _ h=>h.2)) (fun _ h=>h.1));have n1_:=Aside0.mk (Kd.R_mono (Kd.R_told (Kd.R_oldK (IsS77.apart (show IsS77 w0 _ g s0_0 t272 from qz1) qz34 (by decide)) hk) (Kd.R_base ho0)) (fun _ h_=>h_.1));have n2_:=Aside0.mk (Kd.R_lower (Kd.R_new' ho0 (Kd.R_lt qz34)) (keep_size (w:=w) (g:=g) (row:=none) qz2));have n3_:=Aside0.mk (KeepBut.trans qz2 hk (.inl rfl));have n4_:=Aside0.mk (hb);have n5_:=Aside0.mk (hi);clear HO263 HO269 HK HB HI0;have HO263:=n0_;have HO269:=n1_;have HO275:=n2_;have HK:=n3_;have HB:=n4_;have HI0:=n5_;clear n0_ n1_ n2_ n3_ n4_ n5_;(try clear hb);(try clear hb2);(try clear hk);(try clear hi);(try clear ho0)))
    go_ret
    exact ⟨_,qz8,by (with_reducible repeat (first|apply Kd.R_alloc|apply Kd.R_drewN|apply Kd.R_drew));exact Kd.R_mono HO275.out (fun _ hk=>trivial),qz1,qz3,qz2⟩
   ·replace c8:=Bool.eq_false_iff.mpr c8
    subst c8
    have H1:(some (t267,t272))=some (r1,r2):=qz22
    clear H
    have H:=H1
    clear H1
    simp only [Option.some.injEq,Prod.mk.injEq] at H
    obtain ⟨rfl,rfl⟩:=H
    go_enter Tryd.func25,Tryd.ntmps25
    go_wp2_with (first|((with_reducible refine gate_dst (N:=7) rfl ?_);refine Kd.R_lit (Kd.int .i64) _ 3 ?hg (N:=7) ?hd (xs:=([3,8,20,40]:List Int)) (inner:=[.int .i64 3,.int .i64 8,.int .i64 20,.int .i64 40]) (ok:=fun _=>True) (okp:=fun _=>True) ?hr ?hp (fun _ hk=>hk) trivial (Below.refl _ _) (Nat.le_refl _) (by simp) ?_;(case hd=>rfl);(case hg=>rfl);(case hr=>first|(go_simp;done)|(go_simp;rfl));(case hp=>exact (Reps.one (show Kd.M (Kd.int .i64) _ _ _ 3 [.int .i64 3] from rfl) (Reps.one (show Kd.M (Kd.int .i64) _ _ _ 8 [.int .i64 8] from rfl) (Reps.one (show Kd.M (Kd.int .i64) _ _ _ 20 [.int .i64 20] from rfl) (Reps.one (show Kd.M (Kd.int .i64) _ _ _ 40 [.int .i64 40] from rfl) (Reps.none _ _))))));intro v262 w18 ho19 hb hg_ hnew_;clear hg_ hnew_;(first|rw [← Ny261.out] at ho19|(simp only [Int.reduceToNat] at ho19;rw [← Ny261.out] at ho19));have n0_:=Aside0.mk (Kd.R_lower ho19 (keep_size (w:=w) (g:=g) (row:=none) qz2));have n1_:=Aside0.mk (IsS77.below qz1 hb);have n2_:=Aside0.mk (KeepBut.trans qz2 (KeepBut.of_below hb g none) (.inl rfl));have n3_:=Aside0.mk (below_step qz3 hb);clear HI0 HK HB;have HO263:=n0_;have HI0:=n1_;have HK:=n2_;have HB:=n3_;clear n0_ n1_ n2_ n3_ hb ho19)|((with_reducible refine gate_callee (f:=43) rfl ?_);refine goesL_ (some 9) rfl rfl Tryd.func43 (by kernel_rfl) rfl #[.pointer (some ⟨g,0,none⟩),.int .i64 4] rfl qz5 ?_;(with_reducible refine (spec_l20Rd_pick.calls k g s0_0 s0_1 4 t264 t265 w0 _ ?side1 ?side2 A3.out).mono ?_);(case side1=>exact qz1);(case side2=>exact qz3);rintro e w20 ⟨rfl,hi,hb,hk⟩;refine ⟨_,rfl,?_⟩;have n0_:=Aside0.mk (Kd.R_mono (Kd.R_keep (IsS77.apart (show IsS77 w0 _ g s0_0 s0_1 from qz1) qz31 (by decide)) hk (fun _ h=>h.2)) (fun _ h=>h.1));have n1_:=Aside0.mk (KeepBut.trans qz2 hk (.inl rfl));have n2_:=Aside0.mk (hb);have n3_:=Aside0.mk (hi);clear HO263 HK HB HI0;have HO263:=n0_;have HK:=n1_;have HB:=n2_;have HI0:=n3_;clear n0_ n1_ n2_ n3_;(try clear hb);(try clear hb2);(try clear hk);(try clear hi);obtain ⟨Ao21,co21,eo21⟩:=Kd.R_slice HO263.out;subst eo21;have p266:0≤(t264:Int):=of_decide_eq_true qz6;have q266:t264<(y261.length:Int):=of_decide_eq_true qz6;obtain ⟨ad266,e266,hx266_0⟩:=Kd.at_int (Kd.R_reads' HO263.out).2.2 t264 p266 q266;cases e266;replace p266:=eq_true p266;replace q266:=eq_true q266)|((with_reducible refine gate_callee (f:=42) rfl ?_);refine goesL_ (some 12) rfl rfl Tryd.func42 (by kernel_rfl) rfl #[.pointer (some ⟨g,0,none⟩),.int .i64 (rd y261 t264),.int .i64 4] rfl qz5 ?_;(with_reducible refine (spec_l20Term.calls k g s0_0 t265 (rd y261 t264) 4 t267 t270 w0 _ ?side1 ?side2 A6.out).mono ?_);(case side1=>exact qz1);(case side2=>exact qz3);rintro e w22 ⟨v268,rfl,ho0,hi,hb,hk⟩;refine ⟨_,rfl,?_⟩;have n0_:=Aside0.mk (Kd.R_mono (Kd.R_keep (IsS77.apart (show IsS77 w0 _ g s0_0 t265 from qz1) qz31 (by decide)) hk (fun _ h=>h.2)) (fun _ h=>h.1));have n1_:=Aside0.mk (Kd.R_lower ho0 (keep_size (w:=w) (g:=g) (row:=none) qz2));have n2_:=Aside0.mk (KeepBut.trans qz2 hk (.inl rfl));have n3_:=Aside0.mk (hb);have n4_:=Aside0.mk (hi);clear HO263 HK HB HI0;have HO263:=n0_;have HO269:=n1_;have HK:=n2_;have HB:=n3_;have HI0:=n4_;clear n0_ n1_ n2_ n3_ n4_;(try clear hb);(try clear hb2);(try clear hk);(try clear hi);(try clear ho0))|((with_reducible refine gate_callee (f:=44) rfl ?_);refine goesL_ (some 15) rfl rfl Tryd.func44 (by kernel_rfl) rfl #[.pointer (some ⟨g,0,none⟩),.int .i64 a1] rfl qz5 ?_;(with_reducible refine (spec_l20Rd_odd.calls k g s0_0 t270 a1 false t272 w0 _ ?side1 ?side2 A7.out).mono ?_);(case side1=>exact qz1);(case side2=>exact qz3);rintro e w23 ⟨rfl,hi,hb,hk⟩;refine ⟨_,rfl,?_⟩;have n0_:=Aside0.mk (Kd.R_mono (Kd.R_keep (IsS77.apart (show IsS77 w0 _ g s0_0 t270 from qz1) qz31 (by decide)) hk (fun _ h=>h.2)) (fun _ h=>h.1));have n1_:=Aside0.mk (Kd.R_mono (Kd.R_keep (IsS77.apart (show IsS77 w0 _ g s0_0 t270 from qz1) qz34 (by decide)) hk (fun _ h=>h.2)) (fun _ h=>h.1));have n2_:=Aside0.mk (KeepBut.trans qz2 hk (.inl rfl));have n3_:=Aside0.mk (hb);have n4_:=Aside0.mk (hi);clear HO263 HO269 HK HB HI0;have HO263:=n0_;have HO269:=n1_;have HK:=n2_;have HB:=n3_;have HI0:=n4_;clear n0_ n1_ n2_ n3_ n4_;(try clear hb);(try clear hb2);(try clear hk);(try clear hi)))
    go_ret
    exact ⟨_,qz8,qz34,qz1,qz3,qz2⟩
  ·rw [if_neg c5] at H
   exact absurd H (by simp)
 ·rw [if_neg c4] at H
  exact absurd H (by simp)

/-! ### spec_l20Open: function 26 -/
def spec_l20Open.f (l0:List Int):Option (List Int × Int):=if (l0.length:Int) > 2000 then (if 2000≤(l0.length:Int) then (some (l0.take 2000,0)) else (none)) else (some (l0,0))
set_option maxHeartbeats 8000000 in
set_option maxRecDepth 100000 in
theorem spec_l20Open.calls (A0:Option Addr) (c0:Nat) (l0:List Int) (r1:List Int) (r2:Int) (w0 w:World) (hB:Below w0.heap.size w0 w) (hr0:Kd.C (Kd.int .u8) w0 A0 l0.length l0) (hc0:l0.length≤c0) (h:spec_l20Open.f l0=some (r1,r2)) :
  Calls Tryd.prog 26 #[.slice A0 l0.length c0] w fun e w'=>∃ g_:Nat,e = .returned (.pointer (some ⟨g_,0,none⟩))∧IsS77 w0 w' g_ r1 r2∧Below w0.heap.size w0 w'∧Below w.heap.size w w':=by
 have hu77:=Tryd.underlying77
 have HR0:=Aside0.mk hr0
 have HC0:=Aside0.mk hc0
 clear hr0 hc0
 have HBW:=Aside0.mk (Below.refl w.heap.size w)
 have HW0:=Aside0.mk hB.size
 have HB:=Aside0.mk hB
 clear hB
 have H:(if (l0.length:Int) > 2000 then (if 2000≤(l0.length:Int) then (some (l0.take 2000,0)) else (none)) else (some (l0,0)))=some (r1,r2):=h
 clear h
 by_cases c2:(l0.length:Int) > 2000
 ·rw [if_pos c2] at H
  have c2b0:decide (2000<(l0.length:Int))=true:=decide_eq_true c2
  have c2b1:decide (2000<l0.length)=true:=decide_eq_true (by omega)
  clear c2
  by_cases c3:2000≤(l0.length:Int)
  ·rw [if_pos c3] at H
   have c3b0:=eq_true c3
   have c3b1:decide (2000≤(l0.length:Int))=true:=decide_eq_true c3
   clear c3
   simp only [Option.some.injEq,Prod.mk.injEq] at H
   obtain ⟨rfl,rfl⟩:=H
   obtain ⟨i04,hi04,_,hsz4,_⟩:=info_parts info5
   obtain ⟨hcut4,hA4,hC4⟩:=print_take_of (P:=Tryd.prog) (Value.int .u8) 0 29 5 .i64 Tryd.underlying29 hi04 hsz4 A0 c0 l0 2000 (by omega) (of_decide_eq_true qz6) HC0.out
   have HR277:=Aside0.mk (Kd.C_of_reads (h1:=fun _=>rfl) (hA4 _ (Kd.reads_of_C HR0.out)))
   have HC277:=Aside0.mk hC4
   clear hA4 hC4 hi04 hsz4
   go_enter Tryd.func26,Tryd.ntmps26
   go_wp2_with (first|((with_reducible refine gate_dst (N:=10) rfl ?_);refine box_event ?hg (N:=10) ?hd (cs:=#[.slice A0 (l0.take 2000).length c0,.int .i64 0]) (t:=77) ?hr ?_;(case hd=>rfl);(case hg=>rfl);(case hr=>first|(go_simp;done)|(go_simp;rfl));intro gb278 hg w5 hbox hb;have n0_:=Aside0.mk (below_step HBW.out hb);have n1_:=Aside0.mk (below_step qz4 hb);have n2_:=Aside0.mk (hbox);have n3_:=Aside0.mk ((by rw [hg];exact (below_size qz36):w.heap.size≤gb278));have n4_:=Aside0.mk ((Nat.le_trans HW0.out (by rw [hg];exact (below_size qz36):w.heap.size≤gb278):w0.heap.size≤gb278));clear HBW HB;have HBW:=n0_;have HB:=n1_;have BK278:=n2_;have GW278:=n3_;have GE278:=n4_;clear n0_ n1_ n2_ n3_ n4_ hb hbox hg))
   go_ret
   exact ⟨_,rfl,(show IsS77 w0 _ gb278 (l0.take 2000) 0 from ⟨_,_,by (with_reducible repeat (first|refine blk_drewN ?_ _|refine blk_drew ?_|refine blk_alloc ?_ _));exact BK278.out,GE278.out,HR277.out⟩),by repeat (first|(with_reducible first|exact HB.out|apply below_alloc|apply pw_below_drewN|apply below_drew1|refine below_set ?_ GE278.out)|exact HB.out),by repeat (first|(with_reducible first|exact HBW.out|apply below_alloc|apply pw_below_drewN|apply below_drew1|refine below_set ?_ GW278.out)|exact HBW.out)⟩
  ·rw [if_neg c3] at H
   exact absurd H (by simp)
 ·rw [if_neg c2] at H
  have c2b0:decide (2000<(l0.length:Int))=false:=decide_eq_false c2
  have c2b1:decide (2000<l0.length)=false:=decide_eq_false (by omega)
  clear c2
  simp only [Option.some.injEq,Prod.mk.injEq] at H
  obtain ⟨rfl,rfl⟩:=H
  go_enter Tryd.func26,Tryd.ntmps26
  go_wp2_with (first|((with_reducible refine gate_dst (N:=10) rfl ?_);refine box_event ?hg (N:=10) ?hd (cs:=#[.slice A0 l0.length c0,.int .i64 0]) (t:=77) ?hr ?_;(case hd=>rfl);(case hg=>rfl);(case hr=>first|(go_simp;done)|(go_simp;rfl));intro gb279 hg w6 hbox hb;have n0_:=Aside0.mk (below_step HBW.out hb);have n1_:=Aside0.mk (below_step qz4 hb);have n2_:=Aside0.mk (hbox);have n3_:=Aside0.mk ((by rw [hg];exact (below_size qz36):w.heap.size≤gb279));have n4_:=Aside0.mk ((Nat.le_trans HW0.out (by rw [hg];exact (below_size qz36):w.heap.size≤gb279):w0.heap.size≤gb279));clear HBW HB;have HBW:=n0_;have HB:=n1_;have BK279:=n2_;have GW279:=n3_;have GE279:=n4_;clear n0_ n1_ n2_ n3_ n4_ hb hbox hg))
  go_ret
  exact ⟨_,rfl,(show IsS77 w0 _ gb279 l0 0 from ⟨_,_,by (with_reducible repeat (first|refine blk_drewN ?_ _|refine blk_drew ?_|refine blk_alloc ?_ _));exact BK279.out,GE279.out,HR0.out⟩),by repeat (first|(with_reducible first|exact HB.out|apply below_alloc|apply pw_below_drewN|apply below_drew1|refine below_set ?_ GE279.out)|exact HB.out),by repeat (first|(with_reducible first|exact HBW.out|apply below_alloc|apply pw_below_drewN|apply below_drew1|refine below_set ?_ GW279.out)|exact HBW.out)⟩

/-! ### spec_DrawTrmText: function 11 -/
def spec_DrawTrmText.f (k:Nat) (l0:List Int):Option ((List (S34))):=(spec_l20Open.f l0).bind fun bt280=>((spec_l20TermOr.f k bt280.1 bt280.2 6).bind fun bt283=>(some bt283.1))
set_option maxHeartbeats 8000000 in
set_option maxRecDepth 100000 in
theorem spec_DrawTrmText.calls (k:Nat) (A0:Option Addr) (c0:Nat) (l0:List Int) (r:List (S34)) (w:World) (hr0:Kd.C (Kd.int .u8) w A0 l0.length l0) (hc0:l0.length≤c0) (h:spec_DrawTrmText.f k l0=some r) :
  Calls Tryd.prog 11 #[.slice A0 l0.length c0] w fun e w'=>∃ v0_:Value,e = .returned (v0_)∧Kd.R k34 34 w' w.heap.size (fun _=>True) v0_ r∧Below w.heap.size w w':=by
 have HR0:=Aside0.mk hr0
 have HC0:=Aside0.mk hc0
 clear hr0 hc0
 have HB:=Aside0.mk (Below.refl w.heap.size w)
 have H:((spec_l20Open.f l0).bind fun bt280=>((spec_l20TermOr.f k bt280.1 bt280.2 6).bind fun bt283=>(some bt283.1)))=some r:=h
 clear h
 replace H:=Option.bind_eq_some_iff.mp H
 obtain ⟨⟨t280,t281⟩,A20,H⟩:=H
 try dsimp only at H
 have A2:=Aside0.mk A20
 clear A20
 replace H:=Option.bind_eq_some_iff.mp H
 obtain ⟨⟨t283,t286⟩,A30,H⟩:=H
 try dsimp only at H
 have A3:=Aside0.mk A30
 clear A30
 obtain rfl:=Option.some.inj H
 go_enter Tryd.func11,Tryd.ntmps11
 go_wp2_with (first|((with_reducible refine gate_callee (f:=26) rfl ?_);refine goesL_ (some 4) rfl rfl Tryd.func26 (by kernel_rfl) rfl #[.slice A0 l0.length c0] rfl qz5 ?_;(with_reducible refine (spec_l20Open.calls _ _ l0 t280 t281 w _ ?side1 ?side2 ?side3 A2.out).mono ?_);(case side1=>exact qz7);(case side2=>exact HR0.out);(case side3=>exact HC0.out);rintro e w4 ⟨g282,rfl,hi,hb,hb2⟩;refine ⟨_,rfl,?_⟩;have n0_:=Aside0.mk (hb);have n1_:=Aside0.mk (hi);clear HB;have HB:=n0_;have HI282:=n1_;clear n0_ n1_;(try clear hb);(try clear hb2);(try clear hk);(try clear hi))|((with_reducible refine gate_callee (f:=25) rfl ?_);refine goesL_ (some 5) rfl rfl Tryd.func25 (by kernel_rfl) rfl #[.pointer (some ⟨g282,0,none⟩),.int .i64 6] rfl qz5 ?_;(with_reducible refine (spec_l20TermOr.calls k g282 t280 t281 6 t283 t286 w _ ?side1 ?side2 A3.out).mono ?_);(case side1=>repeat (first|(with_reducible first|exact HI282.out|apply IsS77.alloc|apply IsS77.drewN|apply IsS77.drew|apply IsS77.set_1)|exact HI282.out));(case side2=>exact qz37);rintro e w5 ⟨v284,rfl,ho0,hi,hb,hk⟩;refine ⟨_,rfl,?_⟩;have n0_:=Aside0.mk (Kd.R_lower ho0 (below_size qz37));have n1_:=Aside0.mk (hb);have n2_:=Aside0.mk (hi);clear HB HI282;have HO285:=n0_;have HB:=n1_;have HI282:=n2_;clear n0_ n1_ n2_;(try clear hb);(try clear hb2);(try clear hk);(try clear hi);(try clear ho0)))
 go_ret
 exact ⟨_,qz8,by (with_reducible repeat (first|apply Kd.R_alloc|apply Kd.R_drewN|apply Kd.R_drew));exact HO285.out,qz37⟩

end Go.Proofs.YtibencknfheplaaDoor.P
