/- Contracts of functions of the program: each as a Lean function, and that its call does what that says; printed by cprint.py (this session) over print.py of the kit. Conditions: the hypotheses of each theorem. -/
import Derived.Test.YtibencknfheplaaDoorVZ
import Derived.Test.YtibencknfheplaaDoorP0
import Derived.Test.YtibencknfheplaaDoorP4
namespace Go.Proofs.YtibencknfheplaaDoor.P
open Go.RowKit Go.Proofs.YtibencknfheplaaDoorW.PrintWords Go.Proofs.YtibencknfheplaaDoorW.PrintLast Go.Proofs.YtibencknfheplaaDoorW.PrintMore
attribute [local go_sem] max2_int min2_int max_two min_two max_three min_three max_four min_four   -- for this text's walks alone
set_option linter.unusedVariables false
set_option linter.unusedSimpArgs false

/-! ### laws_caOk: function 13 -/
def laws_caOk.f :Option (Bool):=(impl_TrmOk.f (([(⟨2,1,(⟨#[]⟩:ByteArray)⟩:S34)]:List (S34)))).bind fun t290=>(some t290)
set_option maxHeartbeats 8000000 in
set_option maxRecDepth 100000 in
theorem laws_caOk.calls  (r:Bool) (w:World) (h:laws_caOk.f  = some r) :
  Calls Tryd.prog 13 #[] w fun e w'=>e = .returned (.bool r)∧Below w.heap.size w w':=by
 have hu34:=Tryd.underlying34
 have HB:=Aside0.mk (Below.refl w.heap.size w)
 have H:((impl_TrmOk.f (([(⟨2,1,(⟨#[]⟩:ByteArray)⟩:S34)]:List (S34)))).bind fun t290=>(some t290))=some r:=h
 clear h
 obtain ⟨y287,hy287⟩:∃ y_:List (S34),y_=(([(⟨2,1,(⟨#[]⟩:ByteArray)⟩:S34)]:List (S34))):=⟨_,rfl⟩
 replace H:((impl_TrmOk.f y287).bind fun t290=>(some t290))=some r:=by first|(rw [hy287];exact H)|exact H
 have Ny287:=Aside0.mk hy287
 clear hy287
 replace H:=Option.bind_eq_some_iff.mp H
 obtain ⟨t290,A10,H⟩:=H
 try dsimp only at H
 have A1:=Aside0.mk A10
 clear A10
 obtain rfl:=Option.some.inj H
 go_enter Tryd.func13,Tryd.ntmps13
 go_wp2_with (first|((with_reducible refine gate_dst (N:=2) rfl ?_);refine Kd.R_lit k34 _ 34 ?hg (N:=2) ?hd (xs:=([(⟨2,1,(⟨#[]⟩:ByteArray)⟩:S34)]:List (S34))) (inner:=[.int .i64 2,.int .i64 1,.string (⟨#[]⟩:ByteArray)]) (ok:=fun _=>True) (okp:=fun _=>True) ?hr ?hp (fun _ hk=>hk) trivial (Below.refl _ _) (Nat.le_refl _) (by simp) ?_;(case hd=>rfl);(case hg=>rfl);(case hr=>first|(go_simp;done)|(go_simp;rfl));(case hp=>exact (Reps.c3 (show Kd.M k34 _ _ _ (⟨2,1,(⟨#[]⟩:ByteArray)⟩:S34) [.int .i64 2,.int .i64 1,.string (⟨#[]⟩:ByteArray)] from (k34_mkM _ _ _ (⟨2,1,(⟨#[]⟩:ByteArray)⟩:S34) )) (Reps.none _ _)));intro v288 w2 ho3 hb hg_ hnew_;clear hg_ hnew_;(first|rw [← Ny287.out] at ho3|(simp only [Int.reduceToNat] at ho3;rw [← Ny287.out] at ho3));have n0_:=Aside0.mk (Kd.R_lower ho3 (below_size qz4));have n1_:=Aside0.mk (below_step qz4 hb);clear HB;have HO289:=n0_;have HB:=n1_;clear n0_ n1_ hb ho3;obtain ⟨Ao4,co4,eo4⟩:=Kd.R_slice HO289.out;subst eo4)|((with_reducible refine gate_callee (f:=21) rfl ?_);refine goesL_ (some 3) rfl rfl Tryd.func21 (by kernel_rfl) rfl #[.slice Ao4 y287.length co4] rfl qz5 ?_;(with_reducible refine (impl_TrmOk.calls _ _ y287 t290 _ ?side1 ?side2 A1.out).mono ?_);(case side1=>repeat (first|exact (Kd.R_reads' HO289.out).2.2|(with_reducible refine Kd.C_alloc ?_ _)|(with_reducible refine Kd.C_drewN ?_ _)|(with_reducible refine Kd.C_drew ?_)));(case side2=>exact (Kd.R_reads' HO289.out).2.1);rintro e w5 ⟨rfl,hb⟩;refine ⟨_,rfl,?_⟩;have n0_:=Aside0.mk (Kd.R_below (by (with_reducible repeat (first|apply Kd.R_alloc|apply Kd.R_drewN|apply Kd.R_drew));exact HO289.out) hb);have n1_:=Aside0.mk (below_step qz4 hb);clear HO289 HB;have HO289:=n0_;have HB:=n1_;clear n0_ n1_;(try clear hb);(try clear hb2);(try clear hk);(try clear hi)))
 go_ret
 exact ⟨qz8,qz7⟩

end Go.Proofs.YtibencknfheplaaDoor.P
