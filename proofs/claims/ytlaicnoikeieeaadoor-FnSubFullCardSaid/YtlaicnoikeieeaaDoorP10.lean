/- Contracts of functions of the program: each as a Lean function, and that its call does what that says; printed by cprint.py (this session) over print.py of the kit. Conditions: the hypotheses of each theorem. -/
import Derived.Test.YtlaicnoikeieeaaDoorVZ
import Derived.Test.YtlaicnoikeieeaaDoorP0
import Derived.Test.YtlaicnoikeieeaaDoorP2
import Derived.Test.YtlaicnoikeieeaaDoorP3
import Derived.Test.YtlaicnoikeieeaaDoorP9
namespace Go.Proofs.YtlaicnoikeieeaaDoor.P
open Go.RowKit Go.Proofs.YtlaicnoikeieeaaDoorW.PrintWords Go.Proofs.YtlaicnoikeieeaaDoorW.PrintLast Go.Proofs.YtlaicnoikeieeaaDoorW.PrintMore
attribute [local go_sem] max2_int min2_int max_two min_two max_three min_three max_four min_four   -- for this text's walks alone
set_option linter.unusedVariables false
set_option linter.unusedSimpArgs false

/-! ### impl_bindings_full: function 75 -/
/-- a term with what is bound; false, if it is too big -/
def impl_bindings_full.f (k:Nat) (l0:List (S30)) (l1:List (S46)):Option (List (S46) × Bool):=
 (fillF l0 k [] l1).bind fun o=>if 40<o.length then some ([],false) else some (o,true)
set_option maxHeartbeats 4000000 in
set_option maxRecDepth 100000 in
theorem impl_bindings_full.calls (k:Nat) (A0:Option Addr) (c0:Nat) (l0:List (S30)) (A1:Option Addr) (c1:Nat) (l1:List (S46)) (r1:List (S46)) (r2:Bool) (w:World) (hr0:Kd.C k30 w A0 l0.length l0) (hc0:l0.length≤c0) (hr1:Kd.C k46 w A1 l1.length l1) (hc1:l1.length≤c1) (h:impl_bindings_full.f k l0 l1=some (r1,r2)) :
  Calls Tryd.prog 75 #[.slice A0 l0.length c0,.slice A1 l1.length c1] w fun e w'=>∃ v0_:Value,e = .returned (.tuple #[v0_,.bool r2])∧Kd.R k46 46 w' w.heap.size (fun _=>True) v0_ r1∧Below w.heap.size w w':=by
 unfold impl_bindings_full.f at h
 obtain ⟨o,ho,h2⟩:=Option.bind_eq_some_iff.1 h
 have HO:=Aside0.mk ho
 have H2:=Aside0.mk h2
 have HR0:=Aside0.mk hr0
 have HR1:=Aside0.mk hr1
 clear h ho h2 hr0 hr1
 go_enter Tryd.func75,Tryd.ntmps75
 by_cases h40:40<o.length
 ·have h40z:(40:Int)<(o.length:Int):=by omega
  have H3:=H2.out
  rw [if_pos h40] at H3
  injection H3 with H3
  injection H3 with e1 e2
  subst e1 e2
  go_wp2_with (go_at_call 96;refine (fill_any w A0 c0 l0 HR0.out k [] l1 o (.slice none 0 0) A1 c1 _ HO.out (Kd.R_nil _ _ _ _ _) (by repeat (first|exact Below.refl _ _|refine Below.alloc ?_ (by simp) _)) HR1.out hc1).mono ?_;rintro e w9 ⟨v9,rfl,ho9,hb9⟩;obtain ⟨A9,c9,rfl⟩:=Kd.R_slice ho9;have hm9:=(Kd.R_reads' ho9).2.2.2.1;have HO9:=Aside0.mk ho9;have HB9:=Aside0.mk hb9;clear ho9 hb9)
  go_ret2
  exact ⟨_,rfl,Kd.R_nil _ _ _ _ _,HB9.out⟩
 ·have h40z:¬ (40:Int)<(o.length:Int):=by omega
  have H3:=H2.out
  rw [if_neg h40] at H3
  injection H3 with H3
  injection H3 with e1 e2
  subst e1 e2
  go_wp2_with (go_at_call 96;refine (fill_any w A0 c0 l0 HR0.out k [] l1 o (.slice none 0 0) A1 c1 _ HO.out (Kd.R_nil _ _ _ _ _) (by repeat (first|exact Below.refl _ _|refine Below.alloc ?_ (by simp) _)) HR1.out hc1).mono ?_;rintro e w9 ⟨v9,rfl,ho9,hb9⟩;obtain ⟨A9,c9,rfl⟩:=Kd.R_slice ho9;have hm9:=(Kd.R_reads' ho9).2.2.2.1;have HO9:=Aside0.mk ho9;have HB9:=Aside0.mk hb9;clear ho9 hb9)
  go_ret2
  exact ⟨_,rfl,HO9.out,HB9.out⟩

/-! ### impl_SubFull: function 36 -/
def impl_SubFull.f (k:Nat) (l0:List (S30)) (l1:List (S46)):Option ((List (S46)) × Bool):=(impl_SubOk.f k l0).bind fun t229=>(if t229=true then ((impl_TrmOk.f l1).bind fun t230=>(if t230=true then ((impl_bindings_full.f k l0 l1).bind fun bt231=>(some (bt231.1,bt231.2))) else (some (([]:List (S46)),false)))) else (some (([]:List (S46)),false)))
set_option maxHeartbeats 8000000 in
set_option maxRecDepth 100000 in
theorem impl_SubFull.calls (k:Nat) (A0:Option Addr) (c0:Nat) (l0:List (S30)) (A1:Option Addr) (c1:Nat) (l1:List (S46)) (r1:List (S46)) (r2:Bool) (w:World) (hr0:Kd.C k30 w A0 l0.length l0) (hc0:l0.length≤c0) (hr1:Kd.C k46 w A1 l1.length l1) (hc1:l1.length≤c1) (h:impl_SubFull.f k l0 l1=some (r1,r2)) :
  Calls Tryd.prog 36 #[.slice A0 l0.length c0,.slice A1 l1.length c1] w fun e w'=>∃ v0_:Value,e = .returned (.tuple #[v0_,.bool r2])∧Kd.R k46 46 w' w.heap.size (fun _=>True) v0_ r1∧Below w.heap.size w w':=by
 have HR0:=Aside0.mk hr0
 have HC0:=Aside0.mk hc0
 clear hr0 hc0
 have HR1:=Aside0.mk hr1
 have HC1:=Aside0.mk hc1
 clear hr1 hc1
 have HB:=Aside0.mk (Below.refl w.heap.size w)
 have H:((impl_SubOk.f k l0).bind fun t229=>(if t229=true then ((impl_TrmOk.f l1).bind fun t230=>(if t230=true then ((impl_bindings_full.f k l0 l1).bind fun bt231=>(some (bt231.1,bt231.2))) else (some (([]:List (S46)),false)))) else (some (([]:List (S46)),false))))=some (r1,r2):=h
 clear h
 replace H:=Option.bind_eq_some_iff.mp H
 obtain ⟨t229,A30,H⟩:=H
 try dsimp only at H
 have A3:=Aside0.mk A30
 clear A30
 by_cases c4:t229=true
 ·subst c4
  have H1:((impl_TrmOk.f l1).bind fun t230=>(if t230=true then ((impl_bindings_full.f k l0 l1).bind fun bt231=>(some (bt231.1,bt231.2))) else (some (([]:List (S46)),false))))=some (r1,r2):=qz34
  clear H
  have H:=H1
  clear H1
  replace H:=Option.bind_eq_some_iff.mp H
  obtain ⟨t230,A50,H⟩:=H
  try dsimp only at H
  have A5:=Aside0.mk A50
  clear A50
  by_cases c6:t230=true
  ·subst c6
   have H1:((impl_bindings_full.f k l0 l1).bind fun bt231=>(some (bt231.1,bt231.2)))=some (r1,r2):=qz34
   clear H
   have H:=H1
   clear H1
   replace H:=Option.bind_eq_some_iff.mp H
   obtain ⟨⟨t231,t232⟩,A70,H⟩:=H
   try dsimp only at H
   have A7:=Aside0.mk A70
   clear A70
   simp only [Option.some.injEq,Prod.mk.injEq] at H
   obtain ⟨rfl,rfl⟩:=H
   go_enter Tryd.func36,Tryd.ntmps36
   go_wp2_with (first|(go_at_call 26;(with_reducible refine (impl_SubOk.calls k _ _ l0 true _ ?side1 ?side2 A3.out).mono ?_);(case side1=>exact qz28);(case side2=>exact HC0.out);rintro e w8 ⟨rfl,hb⟩;have n0_:=Aside0.mk (below_step qz4 hb);clear HB;have HB:=n0_;clear n0_;(try clear hb);(try clear hb2);(try clear hk);(try clear hi))|(go_at_call 42;(with_reducible refine (impl_TrmOk.calls _ _ l1 true _ ?side1 ?side2 A5.out).mono ?_);(case side1=>exact qz29);(case side2=>exact HC1.out);rintro e w9 ⟨rfl,hb⟩;have n0_:=Aside0.mk (below_step qz4 hb);clear HB;have HB:=n0_;clear n0_;(try clear hb);(try clear hb2);(try clear hk);(try clear hi))|(go_at_call 75;(with_reducible refine (impl_bindings_full.calls k _ _ l0 _ _ l1 t231 t232 _ ?side1 ?side2 ?side3 ?side4 A7.out).mono ?_);(case side1=>exact qz36);(case side2=>exact HC0.out);(case side3=>exact qz29);(case side4=>exact HC1.out);rintro e w10 ⟨v233,rfl,ho0,hb⟩;have n0_:=Aside0.mk (Kd.R_lower ho0 (below_size qz4));have n1_:=Aside0.mk (below_step qz4 hb);clear HB;have HO234:=n0_;have HB:=n1_;clear n0_ n1_;(try clear hb);(try clear hb2);(try clear hk);(try clear hi);(try clear ho0)))
   go_ret2
   exact ⟨_,qz7,by (with_reducible repeat (first|apply Kd.R_alloc|apply Kd.R_drewN|apply Kd.R_drew));exact HO234.out,qz5⟩
  ·replace c6:=Bool.eq_false_iff.mpr c6
   subst c6
   have H1:(some (([]:List (S46)),false))=some (r1,r2):=qz21
   clear H
   have H:=H1
   clear H1
   simp only [Option.some.injEq,Prod.mk.injEq] at H
   obtain ⟨rfl,rfl⟩:=H
   go_enter Tryd.func36,Tryd.ntmps36
   go_wp2_with (first|(go_at_call 26;(with_reducible refine (impl_SubOk.calls k _ _ l0 true _ ?side1 ?side2 A3.out).mono ?_);(case side1=>exact qz28);(case side2=>exact HC0.out);rintro e w11 ⟨rfl,hb⟩;have n0_:=Aside0.mk (below_step qz4 hb);clear HB;have HB:=n0_;clear n0_;(try clear hb);(try clear hb2);(try clear hk);(try clear hi))|(go_at_call 42;(with_reducible refine (impl_TrmOk.calls _ _ l1 false _ ?side1 ?side2 A5.out).mono ?_);(case side1=>exact qz29);(case side2=>exact HC1.out);rintro e w12 ⟨rfl,hb⟩;have n0_:=Aside0.mk (below_step qz4 hb);clear HB;have HB:=n0_;clear n0_;(try clear hb);(try clear hb2);(try clear hk);(try clear hi)))
   go_ret2
   exact ⟨_,qz7,qz64,qz5⟩
 ·replace c4:=Bool.eq_false_iff.mpr c4
  subst c4
  have H1:(some (([]:List (S46)),false))=some (r1,r2):=qz21
  clear H
  have H:=H1
  clear H1
  simp only [Option.some.injEq,Prod.mk.injEq] at H
  obtain ⟨rfl,rfl⟩:=H
  go_enter Tryd.func36,Tryd.ntmps36
  go_wp2_with (first|(go_at_call 26;(with_reducible refine (impl_SubOk.calls k _ _ l0 false _ ?side1 ?side2 A3.out).mono ?_);(case side1=>exact qz28);(case side2=>exact HC0.out);rintro e w13 ⟨rfl,hb⟩;have n0_:=Aside0.mk (below_step qz4 hb);clear HB;have HB:=n0_;clear n0_;(try clear hb);(try clear hb2);(try clear hk);(try clear hi)))
  go_ret2
  exact ⟨_,qz7,qz64,qz5⟩

/-! ### slices_Clip_bindings: function 94 -/
/-! ### impl_args: function 85 -/
/-! ### impl_bindings_walk: function 101 -/
/-! ### impl_bindings_holds: function 108 -/
end Go.Proofs.YtlaicnoikeieeaaDoor.P
