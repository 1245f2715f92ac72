/- THE ROW of FnSubTwo: for every input the law returns true and its arguments read as they did; out of the pure statement Pu.FnSubTwo and the contract of the call. Conditions: none beyond the row's own. -/
import Derived.Test.YtlaicnoikeieeaaDoorRows
import Derived.Test.YtlaicnoikeieeaaDoorTie
import Derived.Test.YtlaicnoikeieeaaDoorCards
import Derived.Test.YtlaicnoikeieeaaDoorP19
import Derived.Test.YtlaicnoikeieeaaDoorPuFnSubTwo
import Derived.Test.YtlaicnoikeieeaaDoorMOpen
import Derived.WalkKit
import Derived.ProofKit
import Derived.OpenShut
import Derived.ShutString
import Derived.ChangeOld
import Derived.Below
import Derived.SizedLaws
import Derived.LaidMore
import Derived.Lay
import Derived.SevenTiedAt
import Derived.Stop.Joined
namespace Go.Proofs.YtlaicnoikeieeaaDoor.RowFnSubTwo
open Go.ChangeShapes Go.WideShapes Go.ChangeAt Go.RowKit Go.Proofs.YtlaicnoikeieeaaDoor.Opn Go.Proofs.YtlaicnoikeieeaaDoor.P Go.Proofs.YtlaicnoikeieeaaDoorW.PrintWords
open Go.ChangeMaps (open_string shut_string)
set_option linter.unusedVariables false
set_option linter.unusedSimpArgs false
theorem own:ownKnob Tryd.prog.godebug=none:=by kernel_rfl
theorem laidOut:laidOutB Tryd.prog=true:=by kernel_rfl
set_option maxRecDepth 100000 in
theorem lifted (os:Os) (started:os.Started) (H:Type) (enc:TypeId × Value→H) :
    ReturnsInHanded {} Tryd.checked os 17 .any (fun w args=>(Rows.fnSubTwoSpec.pre enc Tryd.prog Tryd.f17 Rows.fnSubTwoRow.domain false w args∧laidMetH Tryd.prog Rows.fnSubTwoRow.laid w)∧sizedMet enc Tryd.prog Tryd.f17 (OpenSpec.ofChange Rows.fnSubTwoSpec) false w args)
      (Rows.fnSubTwoSpec.post enc Tryd.prog Tryd.f17 false true false false):=by
  refine returnsInHanded_of_change_and (C:=Tryd.checked) (X:=fun w _=>laidMetH Tryd.prog Rows.fnSubTwoRow.laid w) (fun _ _ _ hh h=>h.of_heap hh) own started (by kernel_rfl) Tryd.func17
    (ChangeSpec.witness_shaped (enc:=enc) (C:=Tryd.checked) (os:=os) (X:=fun w _=>laidMetH Tryd.prog Rows.fnSubTwoRow.laid w) false (World.laidAll Tryd.prog os Rows.fnSubTwoRow.laid) #[.slice none 0 0,.slice none 0 0] 8 (World.laidAll_os _ _ _)
      (World.shaped_of_ZipB (by kernel_rfl) (by kernel_rfl)) (by kernel_rfl) (by kernel_rfl) (by kernel_rfl)
      (by rw [MakeChecks.laidMetH_plain _ _ _ (by kernel_rfl)];exact laidMet_laidAll _ (by kernel_rfl) (by kernel_rfl))) ?_
  intro W base args ds gs before hval0 hW hcnd hsz0 hL hshaped
  have hsz:(DataW.weightsEach Tryd.prog (Tryd.f17.params.toList++Rows.fnSubTwoSpec.plain.varTypes Tryd.prog) (ds++gs)).all (·≤reachBytes)=true:=hsz0
  have hval:∀ (j:Nat) t v,Tryd.f17.params[j]?=some t→args[j]?=some v→Value.okWide Tryd.prog W .any base t v:=hval0
  have hW':=hW
  obtain ⟨p,q,hA0,hV,rfl,hfz,hnd⟩:=hW
  have hA:DataW.TrodAll enc Tryd.prog W 0 (fun _=>true) true Tryd.f17.params.toList args.toList ds p:=hA0
  rw [Tryd.params17] at hA hval hsz
  obtain ⟨v0,vs0,d0,ds0,p0,q0,hargs,rfl,rfl,h0,r0⟩:=trodAll_cons hA
  obtain ⟨v1,vs1,d1,ds1,p1,q1,rfl,rfl,rfl,h1,r1⟩:=trodAll_cons r0
  obtain ⟨rfl,rfl,rfl⟩:=trodAll_nil r1
  obtain rfl:args = #[v0,v1]:=by cases args;simp_all
  obtain ⟨rfl,rfl⟩:=trodVars_none hV
  obtain ⟨a0,len0,cap0,rfl⟩:=okWide_slice Tryd.underlying22 (hval 0 22 v0 rfl rfl)
  have k0:=h0
  have lt0:∀ x ∈ p0,x.block<W.heap.size:=by obtain ⟨m,hm⟩:=k0;exact DataW.trod_lt m _ _ _ hm
  obtain ⟨l0,rfl,hc0,hC0,hok0⟩:=of_arg (opens_slice (e':=5) Tryd.underlying22 (by kernel_rfl) (opens_int Tryd.underlying5)) h0
  obtain ⟨a1,len1,cap1,rfl⟩:=okWide_slice Tryd.underlying22 (hval 1 22 v1 rfl rfl)
  have k1:=h1
  have lt1:∀ x ∈ p1,x.block<W.heap.size:=by obtain ⟨m,hm⟩:=k1;exact DataW.trod_lt m _ _ _ hm
  obtain ⟨l1,rfl,hc1,hC1,hok1⟩:=of_arg (opens_slice (e':=5) Tryd.underlying22 (by kernel_rfl) (opens_int Tryd.underlying5)) h1
  clear hA0 hval0 hsz0 hsz
  obtain ⟨k,hk⟩:=Pu.FnSubTwo l0 hok0 l1 hok1
  refine (laws_FnSubTwo.calls k _ _ l0 _ _ l1 true W hC0 hc0 hC1 hc1 hk).mono fun e W' ⟨he,bel⟩=>?_
  subst he
  exact ⟨_,rfl,_,_,_,[],_,[],hW',trodAll_mk1 (shut_bool Tryd.underlying4 _),(trodAll_cons_mk (Below.trod laidOut (by kernel_rfl) (of_decide_eq_true (by kernel_rfl)) k0 bel lt0) (trodAll_cons_mk (Below.trod laidOut (by kernel_rfl) (of_decide_eq_true (by kernel_rfl)) k1 bel lt1) trodAll_mk0)),rfl,bel.frame _,fun h=>by cases h⟩
theorem jf0:(Rows.fnSubTwoRow.wf (OpenSpec.ofChange Rows.fnSubTwoSpec))=true:=by kernel_rfl
theorem jf1:(laidOutB Tryd.prog)=true:=by kernel_rfl
theorem jf2:(mapsRowed Tryd.prog)=true:=by kernel_rfl
theorem jf3:(Tryd.f17.params.all (Tryd.prog.readableRec ·))=true:=by kernel_rfl
theorem jf4:(namedTie Tryd.prog Rows.fnSubTwoRow.named Rows.fnSubTwoSpec.vars)=true:=by kernel_rfl
theorem jf5:((Rows.fnSubTwoRow.stops == []))=true:=by kernel_rfl
theorem jf6:((Tryd.prog.stops == []))=true:=by kernel_rfl
theorem jf7:((Rows.fnSubTwoRow.knobs == []))=true:=by kernel_rfl
theorem jf8:((Tryd.prog.stopKnobs == []))=true:=by kernel_rfl
theorem jf9:((Rows.fnSubTwoRow.inPlace == Tryd.prog.inPlace 17))=true:=by kernel_rfl
theorem jf10:((Rows.fnSubTwoRow.unfollowed == Tryd.prog.unfollowed 17))=true:=by kernel_rfl
theorem jf11:((Rows.fnSubTwoRow.recurses == Tryd.prog.recurses 17))=true:=by kernel_rfl
theorem jf12:((Rows.fnSubTwoRow.named == Tryd.prog.varsNamed 17))=true:=by kernel_rfl
theorem jf13:((Rows.fnSubTwoRow.maps == (Tryd.f17.params.toList++Rows.fnSubTwoSpec.plain.varTypes Tryd.prog).any (Tryd.prog.mapsRec ·)))=true:=by kernel_rfl
theorem jf14:((Rows.fnSubTwoRow.ifaces == (Tryd.f17.params.toList++Rows.fnSubTwoSpec.plain.varTypes Tryd.prog).any (Tryd.prog.ifacesRec ·)))=true:=by kernel_rfl
theorem jf15:((Rows.fnSubTwoRow.mapsOut == Tryd.prog.mapsAmong Tryd.f17.resultTypes.toList))=true:=by kernel_rfl
theorem jf16:((Rows.fnSubTwoRow.loops == (Tryd.f17.params.toList++Rows.fnSubTwoSpec.plain.varTypes Tryd.prog).any (Tryd.prog.loopsFrom ·)))=true:=by kernel_rfl
theorem jf17:((Rows.fnSubTwoRow.wideKeys == (Tryd.f17.params.toList++Rows.fnSubTwoSpec.plain.varTypes Tryd.prog++Tryd.f17.resultTypes.toList).any (Tryd.prog.wideKeysFrom ·)))=true:=by kernel_rfl
theorem jf18:(Rows.fnSubTwoSpec.vars.all (Tryd.prog.varReadable ·))=true:=by kernel_rfl
theorem jf19:(Tryd.f17.resultTypes.all (fun t=>Tryd.prog.readableRec t && decide (t<Tryd.prog.types.size)))=true:=by kernel_rfl
theorem jf20:((Rows.fnSubTwoRow.ifacesOut == Tryd.f17.resultTypes.toList.any (Tryd.prog.ifacesRec ·)))=true:=by kernel_rfl
theorem jf21:((Rows.fnSubTwoRow.loopsOut == Tryd.f17.resultTypes.toList.any (Tryd.prog.loopsFrom ·)))=true:=by kernel_rfl
theorem jf22:((Rows.fnSubTwoRow.plainKeys == Tryd.prog.plainKeys))=true:=by kernel_rfl
theorem jf23:(Rows.fnSubTwoRow.shortTexts.isNone)=true:=by kernel_rfl
theorem jf24:(Tryd.prog.stopsHeard)=true:=by kernel_rfl
theorem jf25:(Tryd.prog.mayEnter)=true:=by kernel_rfl
theorem jf26:((Rows.fnSubTwoRow.lifted == Tryd.prog.liftsFinal))=true:=by kernel_rfl
theorem jf27:((Tryd.prog.make == some Rows.fnSubTwoRow.make))=true:=by kernel_rfl
theorem jf28:((Rows.fnSubTwoRow.kinds == (if Rows.fnSubTwoRow.domain.isEmpty then [] else Tryd.f17.params.toList.map fun t=>match Tryd.prog.underlying t with|some (.int k)=>some k|_=>none)))=true:=by kernel_rfl
theorem jf29:((Rows.fnSubTwoRow.pinned == Rows.fnSubTwoRow.pinnedBy))=true:=by kernel_rfl
theorem jf30:((Rows.fnSubTwoRow.veiled == (Tryd.f17.params.toList++Rows.fnSubTwoSpec.plain.varTypes Tryd.prog++Tryd.f17.resultTypes.toList).any (Tryd.prog.veiledRec ·)))=true:=by kernel_rfl
theorem jf31:(Rows.fnSubTwoRow.veiledFits Tryd.prog Tryd.f17.params.toList (Tryd.f17.params.toList++Rows.fnSubTwoSpec.plain.varTypes Tryd.prog++Tryd.f17.resultTypes.toList))=true:=by kernel_rfl
theorem an {a b:Bool} (h:a=true) (k:b=true):(a && b)=true:=by rw [h,k];rfl
set_option maxRecDepth 100000 in
theorem closed:joinedFacts Tryd.prog 17 Tryd.f17 Rows.fnSubTwoSpec Rows.fnSubTwoRow=true:=(an (an (an (an (an (an (an (an (an (an (an (an (an (an (an (an (an (an (an (an (an (an (an (an (an (an (an (an (an (an (an jf0 jf1) jf2) jf3) jf4) jf5) jf6) jf7) jf8) jf9) jf10) jf11) jf12) jf13) jf14) jf15) jf16) jf17) jf18) jf19) jf20) jf21) jf22) jf23) jf24) jf25) jf26) jf27) jf28) jf29) jf30) jf31)
theorem named_ : Tryd.prog.funcNamed "loop.example/catechist/laws.FnSubTwo" = some 17 := by kernel_rfl
theorem inst_:Tryd.f17.isInstance Tryd.prog Rows.fnSubTwoRow.origin Rows.fnSubTwoRow.targs:=of_decide_eq_true (by kernel_rfl)
theorem wrap_:Tryd.f17.isWrapper Tryd.prog Rows.fnSubTwoRow.wrapper Rows.fnSubTwoRow.mainSum:=by unfold Func.isWrapper;first|(rw [if_pos (by decide +kernel)];kernel_rfl)|(rw [if_neg (by decide +kernel)];exact ⟨rfl,rfl⟩)
theorem over:Rows.fnSubTwoRow.holds Tryd.pinned (OpenSpec.ofChange Rows.fnSubTwoSpec):=
  OpenClaim.holds_of_wide 17 Tryd.f17 rfl rfl rfl rfl rfl rfl rfl ⟨rfl,rfl,rfl,rfl,rfl⟩ rfl rfl rfl rfl rfl named_ Tryd.func17 closed inst_ wrap_
    (fun os started H enc _=>lifted os started H enc)
theorem wfb_:Rows.fnSubTwoRow.wfByText (OpenSpec.ofChange Rows.fnSubTwoSpec)=true:=by kernel_rfl
theorem main_ : Tryd.prog.mainIs = some (true, "ed435f005494ea716374a3a1548e7a1b6843c0d957f7a9b453338a6fc2451de0".toList) := by kernel_rfl
theorem looks_:false=Tryd.prog.looks []:=by kernel_rfl
theorem stand_:([22,22].all fun u=>!Tryd.prog.wantsStandIn u)=true:=by kernel_rfl
theorem goes_:false=Rows.fnSubTwoRow.goesBy Tryd.prog:=by kernel_rfl
theorem card:Rows.FnSubTwoCardSaid:=
  Claim7.holds_tied_plain_at .later [] [.data, .pinned] true (true, "ed435f005494ea716374a3a1548e7a1b6843c0d957f7a9b453338a6fc2451de0") false over (fun _ h => by cases h) wfb_ (fun _ h => by cases h) fnSubTwo_row_tie rfl ⟨rfl, rfl⟩ main_ rfl
    (fun f fn hf hfn=>by
      obtain rfl:f=17:=Option.some.inj (named_.symm.trans hf) |>.symm
      obtain rfl:fn=Tryd.f17:=(Option.some.inj (Tryd.func17.symm.trans hfn)).symm
      exact ⟨looks_,fun j t ht=>by
        rw [Tryd.params17] at ht
        have hm:t ∈ [22,22]:=by simpa using Array.mem_of_getElem? ht
        exact (show Tryd.prog.wantsStandIn t=false by simpa using List.all_eq_true.1 stand_ t hm)⟩)
    goes_
end Go.Proofs.YtlaicnoikeieeaaDoor.RowFnSubTwo
namespace Go.Proofs.YtlaicnoikeieeaaDoor
theorem fnSubTwo_holds:Rows.FnSubTwoCardSaid:=RowFnSubTwo.card
#print axioms fnSubTwo_holds
end Go.Proofs.YtlaicnoikeieeaaDoor
