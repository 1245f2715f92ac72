/- THE ROW of FnExactSubGet: for every input the law returns true and its arguments read as they did; out of the pure statement Pu.FnExactSubGet and the contract of the call. Conditions: none beyond the row's own. -/
import Derived.Test.YtepkgjcobocbpaaRowFFnExactSubGet
import Derived.Test.YtepkgjcobocbpaaRowGFnExactSubGet
import Derived.Test.YtepkgjcobocbpaaRows
import Derived.Test.YtepkgjcobocbpaaP6
import Derived.Test.YtepkgjcobocbpaaPuFnExactSubGet
import Derived.Test.YtepkgjcobocbpaaMOpen
import Derived.WalkKit
import Derived.ProofKit
import Derived.OpenShut
import Derived.ShutString
import Derived.ChangeOld
import Derived.Below
import Derived.SizedLaws
namespace Go.Proofs.Ytepkgjcobocbpaa.RowFnExactSubGet
open Go.ChangeShapes Go.WideShapes Go.ChangeAt Go.RowKit Go.Proofs.Ytepkgjcobocbpaa.Opn Go.Proofs.Ytepkgjcobocbpaa.P Go.Proofs.YtepkgjcobocbpaaW.PrintWords
open Go.ChangeMaps (open_string shut_string)
set_option linter.unusedVariables false
set_option linter.unusedSimpArgs false
def ok52 (x:S52):Prop:=((Lit.int .i64 x.f0).wf=true)∧((Lit.int .i64 x.f1).wf=true)∧(x.f2.size≤maxLen)
theorem opens52:Opens Try.prog 52 k52 (ok52):=opens_struct (f:=fun (x:S52)=>(x.f0,x.f1,x.f2)) (fun v=>(⟨v.1,v.2.1,v.2.2⟩:S52)) (fun _=>rfl) Try.underlying52 (by kernel_rfl) (opensF_cons rfl (by kernel_rfl) (opens_int Try.underlying3) (opensF_cons rfl (by kernel_rfl) (opens_int Try.underlying3) (opensF_one rfl (by kernel_rfl) (opens_string Try.underlying9))))
def ok36 (x:S36):Prop:=((Lit.int .i64 x.f0).wf=true)∧((x.f1).length≤maxLen∧∀ yf1 ∈ x.f1,ok52 yf1)
theorem opens36:Opens Try.prog 36 k36 (ok36):=opens_struct (f:=fun (x:S36)=>(x.f0,x.f1)) (fun v=>(⟨v.1,v.2⟩:S36)) (fun _=>rfl) Try.underlying36 (by kernel_rfl) (opensF_cons rfl (by kernel_rfl) (opens_int Try.underlying3) (opensF_one rfl (by kernel_rfl) (opens_slice (e':=52) Try.underlying34 (by kernel_rfl) opens52)))
set_option maxRecDepth 100000 in
theorem lifted (os:Os) (started:os.Started) (H:Type) (enc:TypeId × Value→H) :
    ReturnsInHanded {} Try.checked os 3 .any (Rows.fnExactSubGetSpec.pre6 enc Try.prog Try.f3 Rows.fnExactSubGetRow.domain false) (Rows.fnExactSubGetSpec.post enc Try.prog Try.f3 false true false false):=by
  refine returnsInHanded_of_change_sized (C:=Try.checked) own started (by kernel_rfl) Try.func3
    (ChangeSpec.witness6 (enc:=enc) (C:=Try.checked) false ⟨#[],#[.slice none 0 0,.int .i64 0],[]⟩ 8 (by kernel_rfl) (by kernel_rfl) (by kernel_rfl) (by kernel_rfl)) ?_
  intro W base args ds gs before hval0 hW hcnd hsz0 hshaped
  have hsz:(DataW.weightsEach Try.prog (Try.f3.params.toList++Rows.fnExactSubGetSpec.plain.varTypes Try.prog) (ds++gs)).all (·≤reachBytes)=true:=hsz0
  have hval:∀ (j:Nat) t v,Try.f3.params[j]?=some t→args[j]?=some v→Value.okWide Try.prog W .any base t v:=hval0
  have hW':=hW
  obtain ⟨p,q,hA0,hV,rfl,hfz,hnd⟩:=hW
  have hA:DataW.TrodAll enc Try.prog W 0 (fun _=>true) true Try.f3.params.toList args.toList ds p:=hA0
  rw [Try.params3] at hA hval hsz
  obtain ⟨v0,vs0,d0,ds0,p0,q0,hargs,rfl,rfl,h0,r0⟩:=trodAll_cons hA
  obtain ⟨v1,vs1,d1,ds1,p1,q1,rfl,rfl,rfl,h1,r1⟩:=trodAll_cons r0
  obtain ⟨rfl,rfl,rfl⟩:=trodAll_nil r1
  obtain rfl:args = #[v0,v1]:=by cases args;simp_all
  obtain ⟨rfl,rfl⟩:=trodVars_none hV
  obtain ⟨a0,len0,cap0,rfl⟩:=okWide_slice Try.underlying22 (hval 0 22 v0 rfl rfl)
  have k0:=h0
  have lt0:∀ x ∈ p0,x.block<W.heap.size:=by obtain ⟨m,hm⟩:=k0;exact DataW.trod_lt m _ _ _ hm
  obtain ⟨l0,rfl,hc0,hC0,hok0⟩:=of_arg (opens_slice (e':=36) Try.underlying22 (by kernel_rfl) opens36) h0
  obtain ⟨a1,rfl,rfl,rfl,w1⟩:=open_int Try.underlying3 (hval 1 3 v1 rfl rfl) h1
  clear hA0 hval0 hsz0 hsz
  obtain ⟨k,hk⟩:=Pu.FnExactSubGet l0 hok0 a1 w1
  refine (laws_FnExactSubGet.calls k _ _ l0 a1 true W hC0 hc0 hk).mono fun e W' ⟨he,bel⟩=>?_
  subst he
  exact ⟨_,rfl,_,_,_,[],_,[],hW',trodAll_mk1 (shut_bool Try.underlying4 _),(trodAll_cons_mk (Below.trod laidOut (by kernel_rfl) (of_decide_eq_true (by kernel_rfl)) k0 bel lt0) (trodAll_cons_mk (shut_int Try.underlying3 w1) trodAll_mk0)),rfl,bel.frame _,fun h=>by cases h⟩
theorem an {a b:Bool} (h:a=true) (k:b=true):(a && b)=true:=by rw [h,k];rfl
set_option maxRecDepth 100000 in
theorem closed:joinedFacts Try.prog 3 Try.f3 Rows.fnExactSubGetSpec Rows.fnExactSubGetRow=true:=(an (an (an (an (an (an (an (an (an (an (an (an (an (an (an (an (an (an (an (an (an (an (an (an (an (an (an (an (an (an (an jf0 jf1) jf2) jf3) jf4) jf5) jf6) jf7) jf8) jf9) jf10) jf11) jf12) jf13) jf14) jf15) jf16) jf17) jf18) jf19) jf20) jf21) jf22) jf23) jf24) jf25) jf26) jf27) jf28) jf29) jf30) jf31)
theorem over:Rows.fnExactSubGetRow.holds Try.pinned (OpenSpec.ofChange Rows.fnExactSubGetSpec):=
  OpenClaim.holds_of_wide 3 Try.f3 rfl rfl rfl rfl rfl rfl rfl ⟨rfl,rfl,rfl,rfl,rfl⟩ rfl rfl rfl rfl rfl named_ Try.func3 closed inst_ wrap_
    (fun os started H enc _=>lifted os started H enc)
end Go.Proofs.Ytepkgjcobocbpaa.RowFnExactSubGet
namespace Go.Proofs.Ytepkgjcobocbpaa
/-- The row of FnExactSubGet. -/
theorem fnExactSubGet_holds:Rows.FnExactSubGetSaid:=RowFnExactSubGet.over
#print axioms fnExactSubGet_holds
end Go.Proofs.Ytepkgjcobocbpaa
