/- THE ROW of FnExactPrgNode: for every input the law returns true and its arguments read as they did; out of the pure statement Pu.FnExactPrgNode and the contract of the call. Conditions: none beyond the row's own. -/
import Derived.Test.YtepkgjcobocbpaaDoorRows
import Derived.Test.YtepkgjcobocbpaaDoorTie
import Derived.Test.YtepkgjcobocbpaaDoorCards
import Derived.Test.YtepkgjcobocbpaaDoorP18
import Derived.Test.YtepkgjcobocbpaaDoorPuFnExactPrgNode
import Derived.Test.YtepkgjcobocbpaaDoorMOpen
import Derived.WalkKit
import Derived.ProofKit
import Derived.OpenShut
import Derived.ShutString
import Derived.ChangeOld
import Derived.Below
import Derived.SizedLaws
import Derived.LaidMore
import Derived.Lay
import Derived.SevenTiedAt
import Derived.Stop.Joined
namespace Go.Proofs.YtepkgjcobocbpaaDoor.RowFnExactPrgNode
open Go.ChangeShapes Go.WideShapes Go.ChangeAt Go.RowKit Go.Proofs.YtepkgjcobocbpaaDoor.Opn Go.Proofs.YtepkgjcobocbpaaDoor.P Go.Proofs.YtepkgjcobocbpaaDoorW.PrintWords
open Go.ChangeMaps (open_string shut_string)
set_option linter.unusedVariables false
set_option linter.unusedSimpArgs false
abbrev S25:=Go.Proofs.YtepkgjcobocbpaaDoor.Cat.Prog
def k25:Kd S25:=Kd.iso (Kd.pair (Kd.slice 79 k79) (Kd.slice 82 k82)) (fun x:S25=>(x.f0,x.f1))
theorem k25_open {w:World} {x:S25} {cs:List Value} (h:k25.K w x cs):∃ A0 c0 A1 c1,cs=[.slice A0 x.f0.length c0,.slice A1 x.f1.length c1]∧x.f0.length≤c0∧k79.C w A0 x.f0.length x.f0∧x.f1.length≤c1∧k82.C w A1 x.f1.length x.f1:=by
  obtain ⟨a0,b0,rfl,⟨A0,c0,rfl,l0,g0⟩,⟨A1,c1,rfl,l1,g1⟩⟩:=h
  exact ⟨A0,c0,A1,c1,rfl,l0,g0,l1,g1⟩
def ok61 (x:S61):Prop:=((Lit.int .i64 x.f0).wf=true)∧((Lit.int .i64 x.f1).wf=true)∧(x.f2.size≤maxLen)
theorem opens61:Opens Tryd.prog 61 k61 (ok61):=opens_struct (f:=fun (x:S61)=>(x.f0,x.f1,x.f2)) (fun v=>(⟨v.1,v.2.1,v.2.2⟩:S61)) (fun _=>rfl) Tryd.underlying61 (by kernel_rfl) (opensF_cons rfl (by kernel_rfl) (opens_int Tryd.underlying3) (opensF_cons rfl (by kernel_rfl) (opens_int Tryd.underlying3) (opensF_one rfl (by kernel_rfl) (opens_string Tryd.underlying9))))
def ok120 (x:S120):Prop:=((Lit.int .i64 x.f0).wf=true)∧((x.f1).length≤maxLen∧∀ yf1 ∈ x.f1,ok61 yf1)∧((x.f2).length≤maxLen∧∀ yf2 ∈ x.f2,ok61 yf2)∧((x.f3).length≤maxLen∧∀ yf3 ∈ x.f3,ok61 yf3)
theorem opens120:Opens Tryd.prog 120 k120 (ok120):=opens_struct (f:=fun (x:S120)=>(x.f0,x.f1,x.f2,x.f3)) (fun v=>(⟨v.1,v.2.1,v.2.2.1,v.2.2.2⟩:S120)) (fun _=>rfl) Tryd.underlying120 (by kernel_rfl) (opensF_cons rfl (by kernel_rfl) (opens_int Tryd.underlying3) (opensF_cons rfl (by kernel_rfl) (opens_slice (e':=61) Tryd.underlying26 (by kernel_rfl) opens61) (opensF_cons rfl (by kernel_rfl) (opens_slice (e':=61) Tryd.underlying26 (by kernel_rfl) opens61) (opensF_one rfl (by kernel_rfl) (opens_slice (e':=61) Tryd.underlying26 (by kernel_rfl) opens61)))))
def ok79 (x:S79):Prop:=((x.f0).length≤maxLen∧∀ yf0 ∈ x.f0,ok61 yf0)∧((x.f1).length≤maxLen∧∀ yf1 ∈ x.f1,ok120 yf1)
theorem opens79:Opens Tryd.prog 79 k79 (ok79):=opens_struct (f:=fun (x:S79)=>(x.f0,x.f1)) (fun v=>(⟨v.1,v.2⟩:S79)) (fun _=>rfl) Tryd.underlying79 (by kernel_rfl) (opensF_cons rfl (by kernel_rfl) (opens_slice (e':=61) Tryd.underlying26 (by kernel_rfl) opens61) (opensF_one rfl (by kernel_rfl) (opens_slice (e':=120) Tryd.underlying77 (by kernel_rfl) opens120)))
def ok82 (x:S82):Prop:=(x.f0.size≤maxLen)∧((Lit.int .i64 x.f1).wf=true)∧((Lit.int .i64 x.f2).wf=true)
theorem opens82:Opens Tryd.prog 82 k82 (ok82):=opens_struct (f:=fun (x:S82)=>(x.f0,x.f1,x.f2)) (fun v=>(⟨v.1,v.2.1,v.2.2⟩:S82)) (fun _=>rfl) Tryd.underlying82 (by kernel_rfl) (opensF_cons rfl (by kernel_rfl) (opens_string Tryd.underlying9) (opensF_cons rfl (by kernel_rfl) (opens_int Tryd.underlying3) (opensF_one rfl (by kernel_rfl) (opens_int Tryd.underlying3))))
def ok25 (x:S25):Prop:=((x.f0).length≤maxLen∧∀ yf0 ∈ x.f0,ok79 yf0)∧((x.f1).length≤maxLen∧∀ yf1 ∈ x.f1,ok82 yf1)
theorem opens25:Opens Tryd.prog 25 k25 (ok25):=opens_struct (f:=fun (x:S25)=>(x.f0,x.f1)) (fun v=>(⟨v.1,v.2⟩:S25)) (fun _=>rfl) Tryd.underlying25 (by kernel_rfl) (opensF_cons rfl (by kernel_rfl) (opens_slice (e':=79) Tryd.underlying22 (by kernel_rfl) opens79) (opensF_one rfl (by kernel_rfl) (opens_slice (e':=82) Tryd.underlying23 (by kernel_rfl) opens82)))
theorem own:ownKnob Tryd.prog.godebug=none:=by kernel_rfl
theorem laidOut:laidOutB Tryd.prog=true:=by kernel_rfl
set_option maxRecDepth 100000 in
theorem lifted (os:Os) (started:os.Started) (H:Type) (enc:TypeId × Value→H) :
    ReturnsInHanded {} Tryd.checked os 3 .any (fun w args=>(Rows.fnExactPrgNodeSpec.pre enc Tryd.prog Tryd.f3 Rows.fnExactPrgNodeRow.domain false w args∧laidMetH Tryd.prog Rows.fnExactPrgNodeRow.laid w)∧sizedMet enc Tryd.prog Tryd.f3 (OpenSpec.ofChange Rows.fnExactPrgNodeSpec) false w args)
      (Rows.fnExactPrgNodeSpec.post enc Tryd.prog Tryd.f3 false true false false):=by
  refine returnsInHanded_of_change_and (C:=Tryd.checked) (X:=fun w _=>laidMetH Tryd.prog Rows.fnExactPrgNodeRow.laid w) (fun _ _ _ hh h=>h.of_heap hh) own started (by kernel_rfl) Tryd.func3
    (ChangeSpec.witness_shaped (enc:=enc) (C:=Tryd.checked) (os:=os) (X:=fun w _=>laidMetH Tryd.prog Rows.fnExactPrgNodeRow.laid w) false (World.laidAll Tryd.prog os Rows.fnExactPrgNodeRow.laid) #[.agg #[.slice none 0 0,.slice none 0 0],.slice none 0 0] 8 (World.laidAll_os _ _ _)
      (World.shaped_of_ZipB (by kernel_rfl) (by kernel_rfl)) (by kernel_rfl) (by kernel_rfl) (by kernel_rfl)
      (by rw [MakeChecks.laidMetH_plain _ _ _ (by kernel_rfl)];exact laidMet_laidAll _ (by kernel_rfl) (by kernel_rfl))) ?_
  intro W base args ds gs before hval0 hW hcnd hsz0 hL hshaped
  have hsz:(DataW.weightsEach Tryd.prog (Tryd.f3.params.toList++Rows.fnExactPrgNodeSpec.plain.varTypes Tryd.prog) (ds++gs)).all (·≤reachBytes)=true:=hsz0
  have hval:∀ (j:Nat) t v,Tryd.f3.params[j]?=some t→args[j]?=some v→Value.okWide Tryd.prog W .any base t v:=hval0
  have hW':=hW
  obtain ⟨p,q,hA0,hV,rfl,hfz,hnd⟩:=hW
  have hA:DataW.TrodAll enc Tryd.prog W 0 (fun _=>true) true Tryd.f3.params.toList args.toList ds p:=hA0
  rw [Tryd.params3] at hA hval hsz
  obtain ⟨v0,vs0,d0,ds0,p0,q0,hargs,rfl,rfl,h0,r0⟩:=trodAll_cons hA
  obtain ⟨v1,vs1,d1,ds1,p1,q1,rfl,rfl,rfl,h1,r1⟩:=trodAll_cons r0
  obtain ⟨rfl,rfl,rfl⟩:=trodAll_nil r1
  obtain rfl:args = #[v0,v1]:=by cases args;simp_all
  obtain ⟨rfl,rfl⟩:=trodVars_none hV
  obtain ⟨cs0,rfl,_⟩:=okWide_struct Tryd.underlying25 (hval 0 25 v0 rfl rfl)
  have k0:=h0
  have lt0:∀ x ∈ p0,x.block<W.heap.size:=by obtain ⟨m,hm⟩:=k0;exact DataW.trod_lt m _ _ _ hm
  obtain ⟨x0,hK0,hok0⟩:=of_arg_st opens25 h0
  obtain ⟨A0_0,c0_0,A0_1,c0_1,e0,l0_0,g0_0,l0_1,g0_1⟩:=k25_open hK0
  obtain rfl:cs0 = #[.slice A0_0 x0.f0.length c0_0,.slice A0_1 x0.f1.length c0_1]:=Array.ext' e0
  obtain ⟨a1,len1,cap1,rfl⟩:=okWide_slice Tryd.underlying26 (hval 1 26 v1 rfl rfl)
  have k1:=h1
  have lt1:∀ x ∈ p1,x.block<W.heap.size:=by obtain ⟨m,hm⟩:=k1;exact DataW.trod_lt m _ _ _ hm
  obtain ⟨l1,rfl,hc1,hC1,hok1⟩:=of_arg (opens_slice (e':=61) Tryd.underlying26 (by kernel_rfl) opens61) h1
  clear hA0 hval0 hsz0 hsz
  obtain ⟨k,hk⟩:=Pu.FnExactPrgNode x0 hok0 l1 hok1
  refine (laws_FnExactPrgNode.calls k _ _ x0.f0 _ _ x0.f1 _ _ l1 true W g0_0 l0_0 g0_1 l0_1 hC1 hc1 hk).mono fun e W' ⟨he,bel⟩=>?_
  subst he
  exact ⟨_,rfl,_,_,_,[],_,[],hW',trodAll_mk1 (shut_bool Tryd.underlying4 _),(trodAll_cons_mk (Below.trod laidOut (by kernel_rfl) (of_decide_eq_true (by kernel_rfl)) k0 bel lt0) (trodAll_cons_mk (Below.trod laidOut (by kernel_rfl) (of_decide_eq_true (by kernel_rfl)) k1 bel lt1) trodAll_mk0)),rfl,bel.frame _,fun h=>by cases h⟩
theorem jf0:(Rows.fnExactPrgNodeRow.wf (OpenSpec.ofChange Rows.fnExactPrgNodeSpec))=true:=by kernel_rfl
theorem jf1:(laidOutB Tryd.prog)=true:=by kernel_rfl
theorem jf2:(mapsRowed Tryd.prog)=true:=by kernel_rfl
theorem jf3:(Tryd.f3.params.all (Tryd.prog.readableRec ·))=true:=by kernel_rfl
theorem jf4:(namedTie Tryd.prog Rows.fnExactPrgNodeRow.named Rows.fnExactPrgNodeSpec.vars)=true:=by kernel_rfl
theorem jf5:((Rows.fnExactPrgNodeRow.stops == []))=true:=by kernel_rfl
theorem jf6:((Tryd.prog.stops == []))=true:=by kernel_rfl
theorem jf7:((Rows.fnExactPrgNodeRow.knobs == []))=true:=by kernel_rfl
theorem jf8:((Tryd.prog.stopKnobs == []))=true:=by kernel_rfl
theorem jf9:((Rows.fnExactPrgNodeRow.inPlace == Tryd.prog.inPlace 3))=true:=by kernel_rfl
theorem jf10:((Rows.fnExactPrgNodeRow.unfollowed == Tryd.prog.unfollowed 3))=true:=by kernel_rfl
theorem jf11:((Rows.fnExactPrgNodeRow.recurses == Tryd.prog.recurses 3))=true:=by kernel_rfl
theorem jf12:((Rows.fnExactPrgNodeRow.named == Tryd.prog.varsNamed 3))=true:=by kernel_rfl
theorem jf13:((Rows.fnExactPrgNodeRow.maps == (Tryd.f3.params.toList++Rows.fnExactPrgNodeSpec.plain.varTypes Tryd.prog).any (Tryd.prog.mapsRec ·)))=true:=by kernel_rfl
theorem jf14:((Rows.fnExactPrgNodeRow.ifaces == (Tryd.f3.params.toList++Rows.fnExactPrgNodeSpec.plain.varTypes Tryd.prog).any (Tryd.prog.ifacesRec ·)))=true:=by kernel_rfl
theorem jf15:((Rows.fnExactPrgNodeRow.mapsOut == Tryd.prog.mapsAmong Tryd.f3.resultTypes.toList))=true:=by kernel_rfl
theorem jf16:((Rows.fnExactPrgNodeRow.loops == (Tryd.f3.params.toList++Rows.fnExactPrgNodeSpec.plain.varTypes Tryd.prog).any (Tryd.prog.loopsFrom ·)))=true:=by kernel_rfl
theorem jf17:((Rows.fnExactPrgNodeRow.wideKeys == (Tryd.f3.params.toList++Rows.fnExactPrgNodeSpec.plain.varTypes Tryd.prog++Tryd.f3.resultTypes.toList).any (Tryd.prog.wideKeysFrom ·)))=true:=by kernel_rfl
theorem jf18:(Rows.fnExactPrgNodeSpec.vars.all (Tryd.prog.varReadable ·))=true:=by kernel_rfl
theorem jf19:(Tryd.f3.resultTypes.all (fun t=>Tryd.prog.readableRec t && decide (t<Tryd.prog.types.size)))=true:=by kernel_rfl
theorem jf20:((Rows.fnExactPrgNodeRow.ifacesOut == Tryd.f3.resultTypes.toList.any (Tryd.prog.ifacesRec ·)))=true:=by kernel_rfl
theorem jf21:((Rows.fnExactPrgNodeRow.loopsOut == Tryd.f3.resultTypes.toList.any (Tryd.prog.loopsFrom ·)))=true:=by kernel_rfl
theorem jf22:((Rows.fnExactPrgNodeRow.plainKeys == Tryd.prog.plainKeys))=true:=by kernel_rfl
theorem jf23:(Rows.fnExactPrgNodeRow.shortTexts.isNone)=true:=by kernel_rfl
theorem jf24:(Tryd.prog.stopsHeard)=true:=by kernel_rfl
theorem jf25:(Tryd.prog.mayEnter)=true:=by kernel_rfl
theorem jf26:((Rows.fnExactPrgNodeRow.lifted == Tryd.prog.liftsFinal))=true:=by kernel_rfl
theorem jf27:((Tryd.prog.make == some Rows.fnExactPrgNodeRow.make))=true:=by kernel_rfl
theorem jf28:((Rows.fnExactPrgNodeRow.kinds == (if Rows.fnExactPrgNodeRow.domain.isEmpty then [] else Tryd.f3.params.toList.map fun t=>match Tryd.prog.underlying t with|some (.int k)=>some k|_=>none)))=true:=by kernel_rfl
theorem jf29:((Rows.fnExactPrgNodeRow.pinned == Rows.fnExactPrgNodeRow.pinnedBy))=true:=by kernel_rfl
theorem jf30:((Rows.fnExactPrgNodeRow.veiled == (Tryd.f3.params.toList++Rows.fnExactPrgNodeSpec.plain.varTypes Tryd.prog++Tryd.f3.resultTypes.toList).any (Tryd.prog.veiledRec ·)))=true:=by kernel_rfl
theorem jf31:(Rows.fnExactPrgNodeRow.veiledFits Tryd.prog Tryd.f3.params.toList (Tryd.f3.params.toList++Rows.fnExactPrgNodeSpec.plain.varTypes Tryd.prog++Tryd.f3.resultTypes.toList))=true:=by kernel_rfl
theorem an {a b:Bool} (h:a=true) (k:b=true):(a && b)=true:=by rw [h,k];rfl
set_option maxRecDepth 100000 in
theorem closed:joinedFacts Tryd.prog 3 Tryd.f3 Rows.fnExactPrgNodeSpec Rows.fnExactPrgNodeRow=true:=(an (an (an (an (an (an (an (an (an (an (an (an (an (an (an (an (an (an (an (an (an (an (an (an (an (an (an (an (an (an (an jf0 jf1) jf2) jf3) jf4) jf5) jf6) jf7) jf8) jf9) jf10) jf11) jf12) jf13) jf14) jf15) jf16) jf17) jf18) jf19) jf20) jf21) jf22) jf23) jf24) jf25) jf26) jf27) jf28) jf29) jf30) jf31)
theorem named_ : Tryd.prog.funcNamed "loop.example/catechist/laws.FnExactPrgNode" = some 3 := by kernel_rfl
theorem inst_:Tryd.f3.isInstance Tryd.prog Rows.fnExactPrgNodeRow.origin Rows.fnExactPrgNodeRow.targs:=of_decide_eq_true (by kernel_rfl)
theorem wrap_:Tryd.f3.isWrapper Tryd.prog Rows.fnExactPrgNodeRow.wrapper Rows.fnExactPrgNodeRow.mainSum:=by unfold Func.isWrapper;first|(rw [if_pos (by decide +kernel)];kernel_rfl)|(rw [if_neg (by decide +kernel)];exact ⟨rfl,rfl⟩)
theorem over:Rows.fnExactPrgNodeRow.holds Tryd.pinned (OpenSpec.ofChange Rows.fnExactPrgNodeSpec):=
  OpenClaim.holds_of_wide 3 Tryd.f3 rfl rfl rfl rfl rfl rfl rfl ⟨rfl,rfl,rfl,rfl,rfl⟩ rfl rfl rfl rfl rfl named_ Tryd.func3 closed inst_ wrap_
    (fun os started H enc _=>lifted os started H enc)
theorem wfb_:Rows.fnExactPrgNodeRow.wfByText (OpenSpec.ofChange Rows.fnExactPrgNodeSpec)=true:=by kernel_rfl
theorem main_ : Tryd.prog.mainIs = some (true, "48d0c548638a01b7c85a5e86b2b4dd7043d272fdd9b8b6d95b3fed4f4d880dec".toList) := by kernel_rfl
theorem looks_:false=Tryd.prog.looks []:=by kernel_rfl
theorem stand_:([25,26].all fun u=>!Tryd.prog.wantsStandIn u)=true:=by kernel_rfl
theorem goes_:false=Rows.fnExactPrgNodeRow.goesBy Tryd.prog:=by kernel_rfl
theorem card:Rows.FnExactPrgNodeCardSaid:=
  Claim7.holds_tied_plain_at .later [] [.data, .pinned] true (true, "48d0c548638a01b7c85a5e86b2b4dd7043d272fdd9b8b6d95b3fed4f4d880dec") false over (fun _ h => by cases h) wfb_ (fun _ h => by cases h) fnExactPrgNode_row_tie rfl ⟨rfl, rfl⟩ main_ rfl
    (fun f fn hf hfn=>by
      obtain rfl:f=3:=Option.some.inj (named_.symm.trans hf) |>.symm
      obtain rfl:fn=Tryd.f3:=(Option.some.inj (Tryd.func3.symm.trans hfn)).symm
      exact ⟨looks_,fun j t ht=>by
        rw [Tryd.params3] at ht
        have hm:t ∈ [25,26]:=by simpa using Array.mem_of_getElem? ht
        exact (show Tryd.prog.wantsStandIn t=false by simpa using List.all_eq_true.1 stand_ t hm)⟩)
    goes_
end Go.Proofs.YtepkgjcobocbpaaDoor.RowFnExactPrgNode
namespace Go.Proofs.YtepkgjcobocbpaaDoor
/-- The row of FnExactPrgNode. -/
theorem fnExactPrgNode_holds:Rows.FnExactPrgNodeCardSaid:=RowFnExactPrgNode.card
#print axioms fnExactPrgNode_holds
end Go.Proofs.YtepkgjcobocbpaaDoor
