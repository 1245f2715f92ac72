/- THE ROW of FnExactTrmMake: for every input the law returns true and its arguments read as they did; out of the pure statement Pu.FnExactTrmMake and the contract of the call. Conditions: none beyond the row's own. -/
import Derived.Test.YtepkgjcobocbpaaDoorRows
import Derived.Test.YtepkgjcobocbpaaDoorTie
import Derived.Test.YtepkgjcobocbpaaDoorCards
import Derived.Test.YtepkgjcobocbpaaDoorP7
import Derived.Test.YtepkgjcobocbpaaDoorPuFnExactTrmMake
import Derived.Test.YtepkgjcobocbpaaDoorMOpen
import Derived.WalkKit
import Derived.ProofKit
import Derived.OpenShut
import Derived.ShutString
import Derived.ChangeOld
import Derived.Below
import Derived.SizedLaws
import Derived.LaidMore
import Derived.Lay
import Derived.SevenTiedAt
import Derived.Stop.Joined
namespace Go.Proofs.YtepkgjcobocbpaaDoor.RowFnExactTrmMake
open Go.ChangeShapes Go.WideShapes Go.ChangeAt Go.RowKit Go.Proofs.YtepkgjcobocbpaaDoor.Opn Go.Proofs.YtepkgjcobocbpaaDoor.P Go.Proofs.YtepkgjcobocbpaaDoorW.PrintWords
open Go.ChangeMaps (open_string shut_string)
set_option linter.unusedVariables false
set_option linter.unusedSimpArgs false
def ok61 (x:S61):Prop:=((Lit.int .i64 x.f0).wf=true)∧((Lit.int .i64 x.f1).wf=true)∧(x.f2.size≤maxLen)
theorem opens61:Opens Tryd.prog 61 k61 (ok61):=opens_struct (f:=fun (x:S61)=>(x.f0,x.f1,x.f2)) (fun v=>(⟨v.1,v.2.1,v.2.2⟩:S61)) (fun _=>rfl) Tryd.underlying61 (by kernel_rfl) (opensF_cons rfl (by kernel_rfl) (opens_int Tryd.underlying3) (opensF_cons rfl (by kernel_rfl) (opens_int Tryd.underlying3) (opensF_one rfl (by kernel_rfl) (opens_string Tryd.underlying9))))
theorem own:ownKnob Tryd.prog.godebug=none:=by kernel_rfl
theorem laidOut:laidOutB Tryd.prog=true:=by kernel_rfl
set_option maxRecDepth 100000 in
theorem lifted (os:Os) (started:os.Started) (H:Type) (enc:TypeId × Value→H) :
    ReturnsInHanded {} Tryd.checked os 5 .any (fun w args=>(Rows.fnExactTrmMakeSpec.pre enc Tryd.prog Tryd.f5 Rows.fnExactTrmMakeRow.domain false w args∧laidMetH Tryd.prog Rows.fnExactTrmMakeRow.laid w)∧sizedMet enc Tryd.prog Tryd.f5 (OpenSpec.ofChange Rows.fnExactTrmMakeSpec) false w args)
      (Rows.fnExactTrmMakeSpec.post enc Tryd.prog Tryd.f5 false true false false):=by
  refine returnsInHanded_of_change_and (C:=Tryd.checked) (X:=fun w _=>laidMetH Tryd.prog Rows.fnExactTrmMakeRow.laid w) (fun _ _ _ hh h=>h.of_heap hh) own started (by kernel_rfl) Tryd.func5
    (ChangeSpec.witness_shaped (enc:=enc) (C:=Tryd.checked) (os:=os) (X:=fun w _=>laidMetH Tryd.prog Rows.fnExactTrmMakeRow.laid w) false (World.laidAll Tryd.prog os Rows.fnExactTrmMakeRow.laid) #[.string ByteArray.empty,.slice none 0 0] 8 (World.laidAll_os _ _ _)
      (World.shaped_of_ZipB (by kernel_rfl) (by kernel_rfl)) (by kernel_rfl) (by kernel_rfl) (by kernel_rfl)
      (by rw [MakeChecks.laidMetH_plain _ _ _ (by kernel_rfl)];exact laidMet_laidAll _ (by kernel_rfl) (by kernel_rfl))) ?_
  intro W base args ds gs before hval0 hW hcnd hsz0 hL hshaped
  have hsz:(DataW.weightsEach Tryd.prog (Tryd.f5.params.toList++Rows.fnExactTrmMakeSpec.plain.varTypes Tryd.prog) (ds++gs)).all (·≤reachBytes)=true:=hsz0
  have hval:∀ (j:Nat) t v,Tryd.f5.params[j]?=some t→args[j]?=some v→Value.okWide Tryd.prog W .any base t v:=hval0
  have hW':=hW
  obtain ⟨p,q,hA0,hV,rfl,hfz,hnd⟩:=hW
  have hA:DataW.TrodAll enc Tryd.prog W 0 (fun _=>true) true Tryd.f5.params.toList args.toList ds p:=hA0
  rw [Tryd.params5] at hA hval hsz
  obtain ⟨v0,vs0,d0,ds0,p0,q0,hargs,rfl,rfl,h0,r0⟩:=trodAll_cons hA
  obtain ⟨v1,vs1,d1,ds1,p1,q1,rfl,rfl,rfl,h1,r1⟩:=trodAll_cons r0
  obtain ⟨rfl,rfl,rfl⟩:=trodAll_nil r1
  obtain rfl:args = #[v0,v1]:=by cases args;simp_all
  obtain ⟨rfl,rfl⟩:=trodVars_none hV
  obtain ⟨a0,rfl,rfl,rfl,y0⟩:=open_string Tryd.underlying9 (hval 0 9 v0 rfl rfl) h0
  have w0:a0.size≤140737488351232:=by
    have z:=sized_string hsz (j:=0) (t:=9) rfl rfl
    rw [Array.length_toList] at z
    exact z
  obtain ⟨a1,len1,cap1,rfl⟩:=okWide_slice Tryd.underlying49 (hval 1 49 v1 rfl rfl)
  have k1:=h1
  have lt1:∀ x ∈ p1,x.block<W.heap.size:=by obtain ⟨m,hm⟩:=k1;exact DataW.trod_lt m _ _ _ hm
  obtain ⟨l1,rfl,hc1,hC1,hok1⟩:=of_arg (opens_slice (e':=26) Tryd.underlying49 (by kernel_rfl) (opens_slice (e':=61) Tryd.underlying26 (by kernel_rfl) opens61)) h1
  clear hA0 hval0 hsz0 hsz
  obtain ⟨k,hk⟩:=Pu.FnExactTrmMake a0 w0 l1 hok1
  refine (laws_FnExactTrmMake.calls k a0 _ _ l1 true W hC1 hc1 hk).mono fun e W' ⟨he,bel⟩=>?_
  subst he
  exact ⟨_,rfl,_,_,_,[],_,[],hW',trodAll_mk1 (shut_bool Tryd.underlying4 _),(trodAll_cons_mk (shut_string Tryd.underlying9 y0) (trodAll_cons_mk (Below.trod laidOut (by kernel_rfl) (of_decide_eq_true (by kernel_rfl)) k1 bel lt1) trodAll_mk0)),rfl,bel.frame _,fun h=>by cases h⟩
theorem jf0:(Rows.fnExactTrmMakeRow.wf (OpenSpec.ofChange Rows.fnExactTrmMakeSpec))=true:=by kernel_rfl
theorem jf1:(laidOutB Tryd.prog)=true:=by kernel_rfl
theorem jf2:(mapsRowed Tryd.prog)=true:=by kernel_rfl
theorem jf3:(Tryd.f5.params.all (Tryd.prog.readableRec ·))=true:=by kernel_rfl
theorem jf4:(namedTie Tryd.prog Rows.fnExactTrmMakeRow.named Rows.fnExactTrmMakeSpec.vars)=true:=by kernel_rfl
theorem jf5:((Rows.fnExactTrmMakeRow.stops == []))=true:=by kernel_rfl
theorem jf6:((Tryd.prog.stops == []))=true:=by kernel_rfl
theorem jf7:((Rows.fnExactTrmMakeRow.knobs == []))=true:=by kernel_rfl
theorem jf8:((Tryd.prog.stopKnobs == []))=true:=by kernel_rfl
theorem jf9:((Rows.fnExactTrmMakeRow.inPlace == Tryd.prog.inPlace 5))=true:=by kernel_rfl
theorem jf10:((Rows.fnExactTrmMakeRow.unfollowed == Tryd.prog.unfollowed 5))=true:=by kernel_rfl
theorem jf11:((Rows.fnExactTrmMakeRow.recurses == Tryd.prog.recurses 5))=true:=by kernel_rfl
theorem jf12:((Rows.fnExactTrmMakeRow.named == Tryd.prog.varsNamed 5))=true:=by kernel_rfl
theorem jf13:((Rows.fnExactTrmMakeRow.maps == (Tryd.f5.params.toList++Rows.fnExactTrmMakeSpec.plain.varTypes Tryd.prog).any (Tryd.prog.mapsRec ·)))=true:=by kernel_rfl
theorem jf14:((Rows.fnExactTrmMakeRow.ifaces == (Tryd.f5.params.toList++Rows.fnExactTrmMakeSpec.plain.varTypes Tryd.prog).any (Tryd.prog.ifacesRec ·)))=true:=by kernel_rfl
theorem jf15:((Rows.fnExactTrmMakeRow.mapsOut == Tryd.prog.mapsAmong Tryd.f5.resultTypes.toList))=true:=by kernel_rfl
theorem jf16:((Rows.fnExactTrmMakeRow.loops == (Tryd.f5.params.toList++Rows.fnExactTrmMakeSpec.plain.varTypes Tryd.prog).any (Tryd.prog.loopsFrom ·)))=true:=by kernel_rfl
theorem jf17:((Rows.fnExactTrmMakeRow.wideKeys == (Tryd.f5.params.toList++Rows.fnExactTrmMakeSpec.plain.varTypes Tryd.prog++Tryd.f5.resultTypes.toList).any (Tryd.prog.wideKeysFrom ·)))=true:=by kernel_rfl
theorem jf18:(Rows.fnExactTrmMakeSpec.vars.all (Tryd.prog.varReadable ·))=true:=by kernel_rfl
theorem jf19:(Tryd.f5.resultTypes.all (fun t=>Tryd.prog.readableRec t && decide (t<Tryd.prog.types.size)))=true:=by kernel_rfl
theorem jf20:((Rows.fnExactTrmMakeRow.ifacesOut == Tryd.f5.resultTypes.toList.any (Tryd.prog.ifacesRec ·)))=true:=by kernel_rfl
theorem jf21:((Rows.fnExactTrmMakeRow.loopsOut == Tryd.f5.resultTypes.toList.any (Tryd.prog.loopsFrom ·)))=true:=by kernel_rfl
theorem jf22:((Rows.fnExactTrmMakeRow.plainKeys == Tryd.prog.plainKeys))=true:=by kernel_rfl
theorem jf23:(Rows.fnExactTrmMakeRow.shortTexts.isNone)=true:=by kernel_rfl
theorem jf24:(Tryd.prog.stopsHeard)=true:=by kernel_rfl
theorem jf25:(Tryd.prog.mayEnter)=true:=by kernel_rfl
theorem jf26:((Rows.fnExactTrmMakeRow.lifted == Tryd.prog.liftsFinal))=true:=by kernel_rfl
theorem jf27:((Tryd.prog.make == some Rows.fnExactTrmMakeRow.make))=true:=by kernel_rfl
theorem jf28:((Rows.fnExactTrmMakeRow.kinds == (if Rows.fnExactTrmMakeRow.domain.isEmpty then [] else Tryd.f5.params.toList.map fun t=>match Tryd.prog.underlying t with|some (.int k)=>some k|_=>none)))=true:=by kernel_rfl
theorem jf29:((Rows.fnExactTrmMakeRow.pinned == Rows.fnExactTrmMakeRow.pinnedBy))=true:=by kernel_rfl
theorem jf30:((Rows.fnExactTrmMakeRow.veiled == (Tryd.f5.params.toList++Rows.fnExactTrmMakeSpec.plain.varTypes Tryd.prog++Tryd.f5.resultTypes.toList).any (Tryd.prog.veiledRec ·)))=true:=by kernel_rfl
theorem jf31:(Rows.fnExactTrmMakeRow.veiledFits Tryd.prog Tryd.f5.params.toList (Tryd.f5.params.toList++Rows.fnExactTrmMakeSpec.plain.varTypes Tryd.prog++Tryd.f5.resultTypes.toList))=true:=by kernel_rfl
theorem an {a b:Bool} (h:a=true) (k:b=true):(a && b)=true:=by rw [h,k];rfl
set_option maxRecDepth 100000 in
theorem closed:joinedFacts Tryd.prog 5 Tryd.f5 Rows.fnExactTrmMakeSpec Rows.fnExactTrmMakeRow=true:=(an (an (an (an (an (an (an (an (an (an (an (an (an (an (an (an (an (an (an (an (an (an (an (an (an (an (an (an (an (an (an jf0 jf1) jf2) jf3) jf4) jf5) jf6) jf7) jf8) jf9) jf10) jf11) jf12) jf13) jf14) jf15) jf16) jf17) jf18) jf19) jf20) jf21) jf22) jf23) jf24) jf25) jf26) jf27) jf28) jf29) jf30) jf31)
theorem named_ : Tryd.prog.funcNamed "loop.example/catechist/laws.FnExactTrmMake" = some 5 := by kernel_rfl
theorem inst_:Tryd.f5.isInstance Tryd.prog Rows.fnExactTrmMakeRow.origin Rows.fnExactTrmMakeRow.targs:=of_decide_eq_true (by kernel_rfl)
theorem wrap_:Tryd.f5.isWrapper Tryd.prog Rows.fnExactTrmMakeRow.wrapper Rows.fnExactTrmMakeRow.mainSum:=by unfold Func.isWrapper;first|(rw [if_pos (by decide +kernel)];kernel_rfl)|(rw [if_neg (by decide +kernel)];exact ⟨rfl,rfl⟩)
theorem over:Rows.fnExactTrmMakeRow.holds Tryd.pinned (OpenSpec.ofChange Rows.fnExactTrmMakeSpec):=
  OpenClaim.holds_of_wide 5 Tryd.f5 rfl rfl rfl rfl rfl rfl rfl ⟨rfl,rfl,rfl,rfl,rfl⟩ rfl rfl rfl rfl rfl named_ Tryd.func5 closed inst_ wrap_
    (fun os started H enc _=>lifted os started H enc)
theorem wfb_:Rows.fnExactTrmMakeRow.wfByText (OpenSpec.ofChange Rows.fnExactTrmMakeSpec)=true:=by kernel_rfl
theorem main_ : Tryd.prog.mainIs = some (true, "48d0c548638a01b7c85a5e86b2b4dd7043d272fdd9b8b6d95b3fed4f4d880dec".toList) := by kernel_rfl
theorem looks_:false=Tryd.prog.looks []:=by kernel_rfl
theorem stand_:([9,49].all fun u=>!Tryd.prog.wantsStandIn u)=true:=by kernel_rfl
theorem goes_:false=Rows.fnExactTrmMakeRow.goesBy Tryd.prog:=by kernel_rfl
theorem card:Rows.FnExactTrmMakeCardSaid:=
  Claim7.holds_tied_plain_at .later [] [.data, .pinned] true (true, "48d0c548638a01b7c85a5e86b2b4dd7043d272fdd9b8b6d95b3fed4f4d880dec") false over (fun _ h => by cases h) wfb_ (fun _ h => by cases h) fnExactTrmMake_row_tie rfl ⟨rfl, rfl⟩ main_ rfl
    (fun f fn hf hfn=>by
      obtain rfl:f=5:=Option.some.inj (named_.symm.trans hf) |>.symm
      obtain rfl:fn=Tryd.f5:=(Option.some.inj (Tryd.func5.symm.trans hfn)).symm
      exact ⟨looks_,fun j t ht=>by
        rw [Tryd.params5] at ht
        have hm:t ∈ [9,49]:=by simpa using Array.mem_of_getElem? ht
        exact (show Tryd.prog.wantsStandIn t=false by simpa using List.all_eq_true.1 stand_ t hm)⟩)
    goes_
end Go.Proofs.YtepkgjcobocbpaaDoor.RowFnExactTrmMake
namespace Go.Proofs.YtepkgjcobocbpaaDoor
/-- The row of FnExactTrmMake. -/
theorem fnExactTrmMake_holds:Rows.FnExactTrmMakeCardSaid:=RowFnExactTrmMake.card
#print axioms fnExactTrmMake_holds
end Go.Proofs.YtepkgjcobocbpaaDoor
