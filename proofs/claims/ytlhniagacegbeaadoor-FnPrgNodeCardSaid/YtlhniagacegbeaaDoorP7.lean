/- Contracts of functions of the program: each as a Lean function, and that its call does what that says; printed by cprint.py (this session) over print.py of the kit. Conditions: the hypotheses of each theorem. -/
import Derived.Test.YtlhniagacegbeaaDoorVZ
import Derived.Test.YtlhniagacegbeaaDoorP0
import Derived.Test.YtlhniagacegbeaaDoorP5
namespace Go.Proofs.YtlhniagacegbeaaDoor.P
open Go.RowKit Go.Proofs.YtlhniagacegbeaaDoorW.PrintWords Go.Proofs.YtlhniagacegbeaaDoorW.PrintWords.Kd Go.Proofs.YtlhniagacegbeaaDoorW.PrintLast Go.Proofs.YtlhniagacegbeaaDoorW.PrintMore Go.Proofs.YtlhniagacegbeaaDoorW.PrintMore.Kd
attribute [local go_sem] max2_int min2_int max_two min_two max_three min_three max_four min_four   -- for this text's walks alone
set_option linter.unusedVariables false
set_option maxHeartbeats 8000000
set_option maxRecDepth 100000
set_option linter.unusedSimpArgs false
def laws_caOk.f :Option (Bool):=(impl_TrmOk.f (([(⟨2,1,(⟨#[]⟩:BA)⟩:S44)]:List (S44)))).bind fun g=>(some g)
theorem laws_caOk.calls  (r:Bool) (w:World) (h:laws_caOk.f  = some r) :
  Calls Tryd.prog 15 #[] w fun e w'=>e = .returned (.bool r)∧Below w.heap.size w w':=by
 have hu44:=Tryd.underlying44;have HB:=Am (Below.refl w.heap.size w);have H:((impl_TrmOk.f (([(⟨2,1,(⟨#[]⟩:BA)⟩:S44)]:List (S44)))).bind fun g=>(some g))=some r:=h;clear h;obtain ⟨l,i⟩:∃ y_:List (S44),y_=(([(⟨2,1,(⟨#[]⟩:BA)⟩:S44)]:List (S44))):=⟨_,rfl⟩;(first|rw [← i] at H|skip);try dsimp only [Option.bind_some] at H
 have j:=Am i;clear i;obtain ⟨g,A1,H⟩:=bnd H;(try dsimp only at H);obtain rfl:=oi H;go_enter Tryd.func15,Tryd.ntmps15
 go_wp2_with (first|((with_reducible refine gate_dst (N:=2) rfl ?_);refine R_lit k44 _ 44 ?hg (N:=2) ?hd (xs:=([(⟨2,1,(⟨#[]⟩:BA)⟩:S44)]:List (S44))) (inner:=[.int .i64 2,.int .i64 1,.string (⟨#[]⟩:BA)]) (ok:=fun _=>True) (okp:=fun _=>True) ?hr ?hp (fun _ hk=>hk) trivial (Below.refl _ _) (Nat.le_refl _) Qj ?_;(case hd=>rfl);(case hg=>rfl);(case hr=>first|(go_simp;done)|(go_simp;rfl));(case hp=>exact (Reps.c3 (show Kd.M k44 _ _ _ (⟨2,1,(⟨#[]⟩:BA)⟩:S44) [.int .i64 2,.int .i64 1,.string (⟨#[]⟩:BA)] from (k44_mkM _ _ _ (⟨2,1,(⟨#[]⟩:BA)⟩:S44) )) (Reps.none _ _)));intro o w2 ho3 hb hg_ hnew_;clear hg_ hnew_;(first|rw [← j.1] at ho3|(simp only [Int.reduceToNat] at ho3;rw [← j.1] at ho3));have n_:=as2 (R_lower ho3 (below_size Qd)) (below_step Qd hb);clear HB;obtain ⟨b,HB⟩:=n_;clear hb ho3;obtain ⟨q,s,m⟩:=R_slice b.1;subst m)|(go_at_call 39;(with_reducible refine (impl_TrmOk.calls _ _ l g _ ?side1 ?side2 A1.1).mono ?_);(case side1=>repeat (first|exact (R_reads' b.1).2.2|(with_reducible refine C_alloc ?_ _)|(with_reducible refine C_drewN ?_ _)|(with_reducible refine C_drew ?_)));(case side2=>exact (R_reads' b.1).2.1);rintro e w5 ⟨rfl,hb⟩;have n_:=as2 (R_below (Rp b.1) hb) (below_step Qd hb);clear b HB;obtain ⟨b,HB⟩:=n_;clear hb))
 go_ret;exact ⟨Qg,Qd⟩
end Go.Proofs.YtlhniagacegbeaaDoor.P
