/- THE ROW of FnExactSubUnify: for every input the law returns true and its arguments read as they did; out of the pure statement Pu.FnExactSubUnify and the contract of the call. Conditions: none beyond the row's own. -/
import Derived.Test.YtlaicnoikeieeaaDoorRowFFnExactSubUnify
import Derived.Test.YtlaicnoikeieeaaDoorRowGFnExactSubUnify
import Derived.Test.YtlaicnoikeieeaaDoorRows
import Derived.Test.YtlaicnoikeieeaaDoorTie
import Derived.Test.YtlaicnoikeieeaaDoorCards
import Derived.Test.YtlaicnoikeieeaaDoorP17
import Derived.Test.YtlaicnoikeieeaaDoorPuFnExactSubUnify
import Derived.Test.YtlaicnoikeieeaaDoorMOpen
import Derived.WalkKit
import Derived.ProofKit
import Derived.OpenShut
import Derived.ShutString
import Derived.ChangeOld
import Derived.Below
import Derived.SizedLaws
import Derived.LaidMore
import Derived.Lay
import Derived.SevenTiedAt
import Derived.Stop.Joined
namespace Go.Proofs.YtlaicnoikeieeaaDoor.RowFnExactSubUnify
open Go.ChangeShapes Go.WideShapes Go.ChangeAt Go.RowKit Go.Proofs.YtlaicnoikeieeaaDoor.Opn Go.Proofs.YtlaicnoikeieeaaDoor.P Go.Proofs.YtlaicnoikeieeaaDoorW.PrintWords
open Go.ChangeMaps (open_string shut_string)
set_option linter.unusedVariables false
set_option linter.unusedSimpArgs false
def ok90 (x:S90):Prop:=((Lit.int .i64 x.f0).wf=true)∧((Lit.int .i64 x.f1).wf=true)∧(x.f2.size≤maxLen)
theorem opens90:Opens Tryd.prog 90 k90 (ok90):=opens_struct (f:=fun (x:S90)=>(x.f0,x.f1,x.f2)) (fun v=>(⟨v.1,v.2.1,v.2.2⟩:S90)) (fun _=>rfl) Tryd.underlying90 (by kernel_rfl) (opensF_cons rfl (by kernel_rfl) (opens_int Tryd.underlying3) (opensF_cons rfl (by kernel_rfl) (opens_int Tryd.underlying3) (opensF_one rfl (by kernel_rfl) (opens_string Tryd.underlying9))))
def ok72 (x:S72):Prop:=((Lit.int .i64 x.f0).wf=true)∧((x.f1).length≤maxLen∧∀ yf1 ∈ x.f1,ok90 yf1)
theorem opens72:Opens Tryd.prog 72 k72 (ok72):=opens_struct (f:=fun (x:S72)=>(x.f0,x.f1)) (fun v=>(⟨v.1,v.2⟩:S72)) (fun _=>rfl) Tryd.underlying72 (by kernel_rfl) (opensF_cons rfl (by kernel_rfl) (opens_int Tryd.underlying3) (opensF_one rfl (by kernel_rfl) (opens_slice (e':=90) Tryd.underlying47 (by kernel_rfl) opens90)))
set_option maxRecDepth 100000 in
theorem lifted (os:Os) (started:os.Started) (H:Type) (enc:TypeId × Value→H) :
    ReturnsInHanded {} Tryd.checked os 16 .any (fun w args=>(Rows.fnExactSubUnifySpec.pre enc Tryd.prog Tryd.f16 Rows.fnExactSubUnifyRow.domain false w args∧laidMetH Tryd.prog Rows.fnExactSubUnifyRow.laid w)∧sizedMet enc Tryd.prog Tryd.f16 (OpenSpec.ofChange Rows.fnExactSubUnifySpec) false w args)
      (Rows.fnExactSubUnifySpec.post enc Tryd.prog Tryd.f16 false true false false):=by
  refine returnsInHanded_of_change_and (C:=Tryd.checked) (X:=fun w _=>laidMetH Tryd.prog Rows.fnExactSubUnifyRow.laid w) (fun _ _ _ hh h=>h.of_heap hh) own started (by kernel_rfl) Tryd.func16
    (ChangeSpec.witness_shaped (enc:=enc) (C:=Tryd.checked) (os:=os) (X:=fun w _=>laidMetH Tryd.prog Rows.fnExactSubUnifyRow.laid w) false (World.laidAll Tryd.prog os Rows.fnExactSubUnifyRow.laid) #[.slice none 0 0,.slice none 0 0,.slice none 0 0] 8 (World.laidAll_os _ _ _)
      (World.shaped_of_ZipB (by kernel_rfl) (by kernel_rfl)) (by kernel_rfl) (by kernel_rfl) (by kernel_rfl)
      (by rw [MakeChecks.laidMetH_plain _ _ _ (by kernel_rfl)];exact laidMet_laidAll _ (by kernel_rfl) (by kernel_rfl))) ?_
  intro W base args ds gs before hval0 hW hcnd hsz0 hL hshaped
  have hsz:(DataW.weightsEach Tryd.prog (Tryd.f16.params.toList++Rows.fnExactSubUnifySpec.plain.varTypes Tryd.prog) (ds++gs)).all (·≤reachBytes)=true:=hsz0
  have hval:∀ (j:Nat) t v,Tryd.f16.params[j]?=some t→args[j]?=some v→Value.okWide Tryd.prog W .any base t v:=hval0
  have hW':=hW
  obtain ⟨p,q,hA0,hV,rfl,hfz,hnd⟩:=hW
  have hA:DataW.TrodAll enc Tryd.prog W 0 (fun _=>true) true Tryd.f16.params.toList args.toList ds p:=hA0
  rw [Tryd.params16] at hA hval hsz
  obtain ⟨v0,vs0,d0,ds0,p0,q0,hargs,rfl,rfl,h0,r0⟩:=trodAll_cons hA
  obtain ⟨v1,vs1,d1,ds1,p1,q1,rfl,rfl,rfl,h1,r1⟩:=trodAll_cons r0
  obtain ⟨v2,vs2,d2,ds2,p2,q2,rfl,rfl,rfl,h2,r2⟩:=trodAll_cons r1
  obtain ⟨rfl,rfl,rfl⟩:=trodAll_nil r2
  obtain rfl:args = #[v0,v1,v2]:=by cases args;simp_all
  obtain ⟨rfl,rfl⟩:=trodVars_none hV
  obtain ⟨a0,len0,cap0,rfl⟩:=okWide_slice Tryd.underlying33 (hval 0 33 v0 rfl rfl)
  have k0:=h0
  have lt0:∀ x ∈ p0,x.block<W.heap.size:=by obtain ⟨m,hm⟩:=k0;exact DataW.trod_lt m _ _ _ hm
  obtain ⟨l0,rfl,hc0,hC0,hok0⟩:=of_arg (opens_slice (e':=72) Tryd.underlying33 (by kernel_rfl) opens72) h0
  obtain ⟨a1,len1,cap1,rfl⟩:=okWide_slice Tryd.underlying47 (hval 1 47 v1 rfl rfl)
  have k1:=h1
  have lt1:∀ x ∈ p1,x.block<W.heap.size:=by obtain ⟨m,hm⟩:=k1;exact DataW.trod_lt m _ _ _ hm
  obtain ⟨l1,rfl,hc1,hC1,hok1⟩:=of_arg (opens_slice (e':=90) Tryd.underlying47 (by kernel_rfl) opens90) h1
  obtain ⟨a2,len2,cap2,rfl⟩:=okWide_slice Tryd.underlying47 (hval 2 47 v2 rfl rfl)
  have k2:=h2
  have lt2:∀ x ∈ p2,x.block<W.heap.size:=by obtain ⟨m,hm⟩:=k2;exact DataW.trod_lt m _ _ _ hm
  obtain ⟨l2,rfl,hc2,hC2,hok2⟩:=of_arg (opens_slice (e':=90) Tryd.underlying47 (by kernel_rfl) opens90) h2
  clear hA0 hval0 hsz0 hsz
  obtain ⟨k,hk⟩:=Pu.FnExactSubUnify l0 hok0 l1 hok1 l2 hok2
  refine (laws_FnExactSubUnify.calls k _ _ l0 _ _ l1 _ _ l2 true W hC0 hc0 hC1 hc1 hC2 hc2 hk).mono fun e W' ⟨he,bel⟩=>?_
  subst he
  exact ⟨_,rfl,_,_,_,[],_,[],hW',trodAll_mk1 (shut_bool Tryd.underlying4 _),(trodAll_cons_mk (Below.trod laidOut (by kernel_rfl) (of_decide_eq_true (by kernel_rfl)) k0 bel lt0) (trodAll_cons_mk (Below.trod laidOut (by kernel_rfl) (of_decide_eq_true (by kernel_rfl)) k1 bel lt1) (trodAll_cons_mk (Below.trod laidOut (by kernel_rfl) (of_decide_eq_true (by kernel_rfl)) k2 bel lt2) trodAll_mk0))),rfl,bel.frame _,fun h=>by cases h⟩
theorem an {a b:Bool} (h:a=true) (k:b=true):(a && b)=true:=by rw [h,k];rfl
set_option maxRecDepth 100000 in
theorem closed:joinedFacts Tryd.prog 16 Tryd.f16 Rows.fnExactSubUnifySpec Rows.fnExactSubUnifyRow=true:=(an (an (an (an (an (an (an (an (an (an (an (an (an (an (an (an (an (an (an (an (an (an (an (an (an (an (an (an (an (an (an jf0 jf1) jf2) jf3) jf4) jf5) jf6) jf7) jf8) jf9) jf10) jf11) jf12) jf13) jf14) jf15) jf16) jf17) jf18) jf19) jf20) jf21) jf22) jf23) jf24) jf25) jf26) jf27) jf28) jf29) jf30) jf31)
theorem over:Rows.fnExactSubUnifyRow.holds Tryd.pinned (OpenSpec.ofChange Rows.fnExactSubUnifySpec):=
  OpenClaim.holds_of_wide 16 Tryd.f16 rfl rfl rfl rfl rfl rfl rfl ⟨rfl,rfl,rfl,rfl,rfl⟩ rfl rfl rfl rfl rfl named_ Tryd.func16 closed inst_ wrap_
    (fun os started H enc _=>lifted os started H enc)
theorem card:Rows.FnExactSubUnifyCardSaid:=
  Claim7.holds_tied_plain_at .later [] [.data, .pinned] true (true, "ed435f005494ea716374a3a1548e7a1b6843c0d957f7a9b453338a6fc2451de0") false over (fun _ h => by cases h) wfb_ (fun _ h => by cases h) fnExactSubUnify_row_tie rfl ⟨rfl, rfl⟩ main_ rfl
    (fun f fn hf hfn=>by
      obtain rfl:f=16:=Option.some.inj (named_.symm.trans hf) |>.symm
      obtain rfl:fn=Tryd.f16:=(Option.some.inj (Tryd.func16.symm.trans hfn)).symm
      exact ⟨looks_,fun j t ht=>by
        rw [Tryd.params16] at ht
        have hm:t ∈ [33,47,47]:=by simpa using Array.mem_of_getElem? ht
        exact (show Tryd.prog.wantsStandIn t=false by simpa using List.all_eq_true.1 stand_ t hm)⟩)
    goes_
end Go.Proofs.YtlaicnoikeieeaaDoor.RowFnExactSubUnify
namespace Go.Proofs.YtlaicnoikeieeaaDoor
/-- The row of FnExactSubUnify. -/
theorem fnExactSubUnify_holds:Rows.FnExactSubUnifyCardSaid:=RowFnExactSubUnify.card
#print axioms fnExactSubUnify_holds
end Go.Proofs.YtlaicnoikeieeaaDoor
