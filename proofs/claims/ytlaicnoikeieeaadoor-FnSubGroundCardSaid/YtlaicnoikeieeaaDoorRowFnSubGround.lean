/- THE ROW of FnSubGround: for every input the law returns true and its arguments read as they did; out of the pure statement Pu.FnSubGround and the contract of the call. Conditions: none beyond the row's own. -/
import Derived.Test.YtlaicnoikeieeaaDoorRows
import Derived.Test.YtlaicnoikeieeaaDoorTie
import Derived.Test.YtlaicnoikeieeaaDoorCards
import Derived.Test.YtlaicnoikeieeaaDoorP19
import Derived.Test.YtlaicnoikeieeaaDoorPuFnSubGround
import Derived.Test.YtlaicnoikeieeaaDoorMOpen
import Derived.WalkKit
import Derived.ProofKit
import Derived.OpenShut
import Derived.ShutString
import Derived.ChangeOld
import Derived.Below
import Derived.SizedLaws
import Derived.LaidMore
import Derived.Lay
import Derived.SevenTiedAt
import Derived.Stop.Joined
namespace Go.Proofs.YtlaicnoikeieeaaDoor.RowFnSubGround
open Go.ChangeShapes Go.WideShapes Go.ChangeAt Go.RowKit Go.Proofs.YtlaicnoikeieeaaDoor.Opn Go.Proofs.YtlaicnoikeieeaaDoor.P Go.Proofs.YtlaicnoikeieeaaDoorW.PrintWords
open Go.ChangeMaps (open_string shut_string)
set_option linter.unusedVariables false
set_option linter.unusedSimpArgs false
theorem own:ownKnob Tryd.prog.godebug=none:=by kernel_rfl
theorem laidOut:laidOutB Tryd.prog=true:=by kernel_rfl
set_option maxRecDepth 100000 in
theorem lifted (os:Os) (started:os.Started) (H:Type) (enc:TypeId × Value→H) :
    ReturnsInHanded {} Tryd.checked os 14 .any (fun w args=>(Rows.fnSubGroundSpec.pre enc Tryd.prog Tryd.f14 Rows.fnSubGroundRow.domain false w args∧laidMetH Tryd.prog Rows.fnSubGroundRow.laid w)∧sizedMet enc Tryd.prog Tryd.f14 (OpenSpec.ofChange Rows.fnSubGroundSpec) false w args)
      (Rows.fnSubGroundSpec.post enc Tryd.prog Tryd.f14 false true false false):=by
  refine returnsInHanded_of_change_and (C:=Tryd.checked) (X:=fun w _=>laidMetH Tryd.prog Rows.fnSubGroundRow.laid w) (fun _ _ _ hh h=>h.of_heap hh) own started (by kernel_rfl) Tryd.func14
    (ChangeSpec.witness_shaped (enc:=enc) (C:=Tryd.checked) (os:=os) (X:=fun w _=>laidMetH Tryd.prog Rows.fnSubGroundRow.laid w) false (World.laidAll Tryd.prog os Rows.fnSubGroundRow.laid) #[.slice none 0 0] 8 (World.laidAll_os _ _ _)
      (World.shaped_of_ZipB (by kernel_rfl) (by kernel_rfl)) (by kernel_rfl) (by kernel_rfl) (by kernel_rfl)
      (by rw [MakeChecks.laidMetH_plain _ _ _ (by kernel_rfl)];exact laidMet_laidAll _ (by kernel_rfl) (by kernel_rfl))) ?_
  intro W base args ds gs before hval0 hW hcnd hsz0 hL hshaped
  have hsz:(DataW.weightsEach Tryd.prog (Tryd.f14.params.toList++Rows.fnSubGroundSpec.plain.varTypes Tryd.prog) (ds++gs)).all (·≤reachBytes)=true:=hsz0
  have hval:∀ (j:Nat) t v,Tryd.f14.params[j]?=some t→args[j]?=some v→Value.okWide Tryd.prog W .any base t v:=hval0
  have hW':=hW
  obtain ⟨p,q,hA0,hV,rfl,hfz,hnd⟩:=hW
  have hA:DataW.TrodAll enc Tryd.prog W 0 (fun _=>true) true Tryd.f14.params.toList args.toList ds p:=hA0
  rw [Tryd.params14] at hA hval hsz
  obtain ⟨v0,vs0,d0,ds0,p0,q0,hargs,rfl,rfl,h0,r0⟩:=trodAll_cons hA
  obtain ⟨rfl,rfl,rfl⟩:=trodAll_nil r0
  obtain rfl:args = #[v0]:=by cases args;simp_all
  obtain ⟨rfl,rfl⟩:=trodVars_none hV
  obtain ⟨a0,len0,cap0,rfl⟩:=okWide_slice Tryd.underlying22 (hval 0 22 v0 rfl rfl)
  have k0:=h0
  have lt0:∀ x ∈ p0,x.block<W.heap.size:=by obtain ⟨m,hm⟩:=k0;exact DataW.trod_lt m _ _ _ hm
  obtain ⟨l0,rfl,hc0,hC0,hok0⟩:=of_arg (opens_slice (e':=5) Tryd.underlying22 (by kernel_rfl) (opens_int Tryd.underlying5)) h0
  clear hA0 hval0 hsz0 hsz
  obtain ⟨k,hk⟩:=Pu.FnSubGround l0 hok0
  refine (laws_FnSubGround.calls k _ _ l0 true W hC0 hc0 hk).mono fun e W' ⟨he,bel⟩=>?_
  subst he
  exact ⟨_,rfl,_,_,_,[],_,[],hW',trodAll_mk1 (shut_bool Tryd.underlying4 _),(trodAll_cons_mk (Below.trod laidOut (by kernel_rfl) (of_decide_eq_true (by kernel_rfl)) k0 bel lt0) trodAll_mk0),rfl,bel.frame _,fun h=>by cases h⟩
theorem jf0:(Rows.fnSubGroundRow.wf (OpenSpec.ofChange Rows.fnSubGroundSpec))=true:=by kernel_rfl
theorem jf1:(laidOutB Tryd.prog)=true:=by kernel_rfl
theorem jf2:(mapsRowed Tryd.prog)=true:=by kernel_rfl
theorem jf3:(Tryd.f14.params.all (Tryd.prog.readableRec ·))=true:=by kernel_rfl
theorem jf4:(namedTie Tryd.prog Rows.fnSubGroundRow.named Rows.fnSubGroundSpec.vars)=true:=by kernel_rfl
theorem jf5:((Rows.fnSubGroundRow.stops == []))=true:=by kernel_rfl
theorem jf6:((Tryd.prog.stops == []))=true:=by kernel_rfl
theorem jf7:((Rows.fnSubGroundRow.knobs == []))=true:=by kernel_rfl
theorem jf8:((Tryd.prog.stopKnobs == []))=true:=by kernel_rfl
theorem jf9:((Rows.fnSubGroundRow.inPlace == Tryd.prog.inPlace 14))=true:=by kernel_rfl
theorem jf10:((Rows.fnSubGroundRow.unfollowed == Tryd.prog.unfollowed 14))=true:=by kernel_rfl
theorem jf11:((Rows.fnSubGroundRow.recurses == Tryd.prog.recurses 14))=true:=by kernel_rfl
theorem jf12:((Rows.fnSubGroundRow.named == Tryd.prog.varsNamed 14))=true:=by kernel_rfl
theorem jf13:((Rows.fnSubGroundRow.maps == (Tryd.f14.params.toList++Rows.fnSubGroundSpec.plain.varTypes Tryd.prog).any (Tryd.prog.mapsRec ·)))=true:=by kernel_rfl
theorem jf14:((Rows.fnSubGroundRow.ifaces == (Tryd.f14.params.toList++Rows.fnSubGroundSpec.plain.varTypes Tryd.prog).any (Tryd.prog.ifacesRec ·)))=true:=by kernel_rfl
theorem jf15:((Rows.fnSubGroundRow.mapsOut == Tryd.prog.mapsAmong Tryd.f14.resultTypes.toList))=true:=by kernel_rfl
theorem jf16:((Rows.fnSubGroundRow.loops == (Tryd.f14.params.toList++Rows.fnSubGroundSpec.plain.varTypes Tryd.prog).any (Tryd.prog.loopsFrom ·)))=true:=by kernel_rfl
theorem jf17:((Rows.fnSubGroundRow.wideKeys == (Tryd.f14.params.toList++Rows.fnSubGroundSpec.plain.varTypes Tryd.prog++Tryd.f14.resultTypes.toList).any (Tryd.prog.wideKeysFrom ·)))=true:=by kernel_rfl
theorem jf18:(Rows.fnSubGroundSpec.vars.all (Tryd.prog.varReadable ·))=true:=by kernel_rfl
theorem jf19:(Tryd.f14.resultTypes.all (fun t=>Tryd.prog.readableRec t && decide (t<Tryd.prog.types.size)))=true:=by kernel_rfl
theorem jf20:((Rows.fnSubGroundRow.ifacesOut == Tryd.f14.resultTypes.toList.any (Tryd.prog.ifacesRec ·)))=true:=by kernel_rfl
theorem jf21:((Rows.fnSubGroundRow.loopsOut == Tryd.f14.resultTypes.toList.any (Tryd.prog.loopsFrom ·)))=true:=by kernel_rfl
theorem jf22:((Rows.fnSubGroundRow.plainKeys == Tryd.prog.plainKeys))=true:=by kernel_rfl
theorem jf23:(Rows.fnSubGroundRow.shortTexts.isNone)=true:=by kernel_rfl
theorem jf24:(Tryd.prog.stopsHeard)=true:=by kernel_rfl
theorem jf25:(Tryd.prog.mayEnter)=true:=by kernel_rfl
theorem jf26:((Rows.fnSubGroundRow.lifted == Tryd.prog.liftsFinal))=true:=by kernel_rfl
theorem jf27:((Tryd.prog.make == some Rows.fnSubGroundRow.make))=true:=by kernel_rfl
theorem jf28:((Rows.fnSubGroundRow.kinds == (if Rows.fnSubGroundRow.domain.isEmpty then [] else Tryd.f14.params.toList.map fun t=>match Tryd.prog.underlying t with|some (.int k)=>some k|_=>none)))=true:=by kernel_rfl
theorem jf29:((Rows.fnSubGroundRow.pinned == Rows.fnSubGroundRow.pinnedBy))=true:=by kernel_rfl
theorem jf30:((Rows.fnSubGroundRow.veiled == (Tryd.f14.params.toList++Rows.fnSubGroundSpec.plain.varTypes Tryd.prog++Tryd.f14.resultTypes.toList).any (Tryd.prog.veiledRec ·)))=true:=by kernel_rfl
theorem jf31:(Rows.fnSubGroundRow.veiledFits Tryd.prog Tryd.f14.params.toList (Tryd.f14.params.toList++Rows.fnSubGroundSpec.plain.varTypes Tryd.prog++Tryd.f14.resultTypes.toList))=true:=by kernel_rfl
theorem an {a b:Bool} (h:a=true) (k:b=true):(a && b)=true:=by rw [h,k];rfl
set_option maxRecDepth 100000 in
theorem closed:joinedFacts Tryd.prog 14 Tryd.f14 Rows.fnSubGroundSpec Rows.fnSubGroundRow=true:=(an (an (an (an (an (an (an (an (an (an (an (an (an (an (an (an (an (an (an (an (an (an (an (an (an (an (an (an (an (an (an jf0 jf1) jf2) jf3) jf4) jf5) jf6) jf7) jf8) jf9) jf10) jf11) jf12) jf13) jf14) jf15) jf16) jf17) jf18) jf19) jf20) jf21) jf22) jf23) jf24) jf25) jf26) jf27) jf28) jf29) jf30) jf31)
theorem named_ : Tryd.prog.funcNamed "loop.example/catechist/laws.FnSubGround" = some 14 := by kernel_rfl
theorem inst_:Tryd.f14.isInstance Tryd.prog Rows.fnSubGroundRow.origin Rows.fnSubGroundRow.targs:=of_decide_eq_true (by kernel_rfl)
theorem wrap_:Tryd.f14.isWrapper Tryd.prog Rows.fnSubGroundRow.wrapper Rows.fnSubGroundRow.mainSum:=by unfold Func.isWrapper;first|(rw [if_pos (by decide +kernel)];kernel_rfl)|(rw [if_neg (by decide +kernel)];exact ⟨rfl,rfl⟩)
theorem over:Rows.fnSubGroundRow.holds Tryd.pinned (OpenSpec.ofChange Rows.fnSubGroundSpec):=
  OpenClaim.holds_of_wide 14 Tryd.f14 rfl rfl rfl rfl rfl rfl rfl ⟨rfl,rfl,rfl,rfl,rfl⟩ rfl rfl rfl rfl rfl named_ Tryd.func14 closed inst_ wrap_
    (fun os started H enc _=>lifted os started H enc)
theorem wfb_:Rows.fnSubGroundRow.wfByText (OpenSpec.ofChange Rows.fnSubGroundSpec)=true:=by kernel_rfl
theorem main_ : Tryd.prog.mainIs = some (true, "ed435f005494ea716374a3a1548e7a1b6843c0d957f7a9b453338a6fc2451de0".toList) := by kernel_rfl
theorem looks_:false=Tryd.prog.looks []:=by kernel_rfl
theorem stand_:([22].all fun u=>!Tryd.prog.wantsStandIn u)=true:=by kernel_rfl
theorem goes_:false=Rows.fnSubGroundRow.goesBy Tryd.prog:=by kernel_rfl
theorem card:Rows.FnSubGroundCardSaid:=
  Claim7.holds_tied_plain_at .later [] [.data, .pinned] true (true, "ed435f005494ea716374a3a1548e7a1b6843c0d957f7a9b453338a6fc2451de0") false over (fun _ h => by cases h) wfb_ (fun _ h => by cases h) fnSubGround_row_tie rfl ⟨rfl, rfl⟩ main_ rfl
    (fun f fn hf hfn=>by
      obtain rfl:f=14:=Option.some.inj (named_.symm.trans hf) |>.symm
      obtain rfl:fn=Tryd.f14:=(Option.some.inj (Tryd.func14.symm.trans hfn)).symm
      exact ⟨looks_,fun j t ht=>by
        rw [Tryd.params14] at ht
        have hm:t ∈ [22]:=by simpa using Array.mem_of_getElem? ht
        exact (show Tryd.prog.wantsStandIn t=false by simpa using List.all_eq_true.1 stand_ t hm)⟩)
    goes_
end Go.Proofs.YtlaicnoikeieeaaDoor.RowFnSubGround
namespace Go.Proofs.YtlaicnoikeieeaaDoor
/-- The row of FnSubGround. -/
theorem fnSubGround_holds:Rows.FnSubGroundCardSaid:=RowFnSubGround.card
#print axioms fnSubGround_holds
end Go.Proofs.YtlaicnoikeieeaaDoor
