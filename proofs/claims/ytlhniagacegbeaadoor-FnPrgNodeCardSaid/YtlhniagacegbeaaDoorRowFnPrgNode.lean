/- THE ROW of FnPrgNode: for every input the law returns true and its arguments read as they did; out of the pure statement Pu.FnPrgNode and the contract of the call. Conditions: none beyond the row's own. -/
import Derived.Test.YtlhniagacegbeaaDoorRowFFnPrgNode
import Derived.Test.YtlhniagacegbeaaDoorRowGFnPrgNode
import Derived.Test.YtlhniagacegbeaaDoorRows
import Derived.Test.YtlhniagacegbeaaDoorTie
import Derived.Test.YtlhniagacegbeaaDoorCards
import Derived.Test.YtlhniagacegbeaaDoorP13
import Derived.Test.YtlhniagacegbeaaDoorPuFnPrgNode
import Derived.Test.YtlhniagacegbeaaDoorMOpen
import Derived.WalkKit
import Derived.ProofKit
import Derived.OpenShut
import Derived.ShutString
import Derived.ChangeOld
import Derived.Below
import Derived.SizedLaws
import Derived.LaidMore
import Derived.Lay
import Derived.SevenTiedAt
import Derived.Stop.Joined
namespace Go.Proofs.YtlhniagacegbeaaDoor.RowFnPrgNode
open Go.ChangeShapes Go.WideShapes Go.ChangeAt Go.RowKit Go.Proofs.YtlhniagacegbeaaDoor.Opn Go.Proofs.YtlhniagacegbeaaDoor.P Go.Proofs.YtlhniagacegbeaaDoorW.PrintWords
open Go.ChangeMaps (open_string shut_string)
set_option linter.unusedVariables false
set_option linter.unusedSimpArgs false
set_option maxRecDepth 100000 in
theorem lifted (os:Os) (started:os.Started) (H:Type) (enc:TypeId × Value→H) :
    ReturnsInHanded {} Tryd.checked os 4 .any (fun w args=>(Rows.fnPrgNodeSpec.pre enc Tryd.prog Tryd.f4 Rows.fnPrgNodeRow.domain false w args∧laidMetH Tryd.prog Rows.fnPrgNodeRow.laid w)∧sizedMet enc Tryd.prog Tryd.f4 (OpenSpec.ofChange Rows.fnPrgNodeSpec) false w args)
      (Rows.fnPrgNodeSpec.post enc Tryd.prog Tryd.f4 false true false false):=by
  refine returnsInHanded_of_change_and (C:=Tryd.checked) (X:=fun w _=>laidMetH Tryd.prog Rows.fnPrgNodeRow.laid w) (fun _ _ _ hh h=>h.of_heap hh) own started (by kernel_rfl) Tryd.func4
    (ChangeSpec.witness_shaped (enc:=enc) (C:=Tryd.checked) (os:=os) (X:=fun w _=>laidMetH Tryd.prog Rows.fnPrgNodeRow.laid w) false (World.laidAll Tryd.prog os Rows.fnPrgNodeRow.laid) #[.slice none 0 0] 8 (World.laidAll_os _ _ _)
      (World.shaped_of_ZipB (by kernel_rfl) (by kernel_rfl)) (by kernel_rfl) (by kernel_rfl) (by kernel_rfl)
      (by rw [MakeChecks.laidMetH_plain _ _ _ (by kernel_rfl)];exact laidMet_laidAll _ (by kernel_rfl) (by kernel_rfl))) ?_
  intro W base args ds gs before hval0 hW hcnd hsz0 hL hshaped
  have hsz:(DataW.weightsEach Tryd.prog (Tryd.f4.params.toList++Rows.fnPrgNodeSpec.plain.varTypes Tryd.prog) (ds++gs)).all (·≤reachBytes)=true:=hsz0
  have hval:∀ (j:Nat) t v,Tryd.f4.params[j]?=some t→args[j]?=some v→Value.okWide Tryd.prog W .any base t v:=hval0
  have hW':=hW
  obtain ⟨p,q,hA0,hV,rfl,hfz,hnd⟩:=hW
  have hA:DataW.TrodAll enc Tryd.prog W 0 (fun _=>true) true Tryd.f4.params.toList args.toList ds p:=hA0
  rw [Tryd.params4] at hA hval hsz
  obtain ⟨v0,vs0,d0,ds0,p0,q0,hargs,rfl,rfl,h0,r0⟩:=trodAll_cons hA
  obtain ⟨rfl,rfl,rfl⟩:=trodAll_nil r0
  obtain rfl:args = #[v0]:=by cases args;simp_all
  obtain ⟨rfl,rfl⟩:=trodVars_none hV
  obtain ⟨a0,len0,cap0,rfl⟩:=okWide_slice Tryd.underlying33 (hval 0 33 v0 rfl rfl)
  have k0:=h0
  have lt0:∀ x ∈ p0,x.block<W.heap.size:=by obtain ⟨m,hm⟩:=k0;exact DataW.trod_lt m _ _ _ hm
  obtain ⟨l0,rfl,hc0,hC0,hok0⟩:=of_arg (opens_slice (e':=5) Tryd.underlying33 (by kernel_rfl) (opens_int Tryd.underlying5)) h0
  clear hA0 hval0 hsz0 hsz
  obtain ⟨k,hk⟩:=Pu.FnPrgNode l0 hok0
  refine (laws_FnPrgNode.calls k _ _ l0 true W hC0 hc0 hk).mono fun e W' ⟨he,bel⟩=>?_
  subst he
  exact ⟨_,rfl,_,_,_,[],_,[],hW',trodAll_mk1 (shut_bool Tryd.underlying4 _),(trodAll_cons_mk (Below.trod laidOut (by kernel_rfl) (of_decide_eq_true (by kernel_rfl)) k0 bel lt0) trodAll_mk0),rfl,bel.frame _,fun h=>by cases h⟩
theorem an {a b:Bool} (h:a=true) (k:b=true):(a && b)=true:=by rw [h,k];rfl
set_option maxRecDepth 100000 in
theorem closed:joinedFacts Tryd.prog 4 Tryd.f4 Rows.fnPrgNodeSpec Rows.fnPrgNodeRow=true:=(an (an (an (an (an (an (an (an (an (an (an (an (an (an (an (an (an (an (an (an (an (an (an (an (an (an (an (an (an (an (an jf0 jf1) jf2) jf3) jf4) jf5) jf6) jf7) jf8) jf9) jf10) jf11) jf12) jf13) jf14) jf15) jf16) jf17) jf18) jf19) jf20) jf21) jf22) jf23) jf24) jf25) jf26) jf27) jf28) jf29) jf30) jf31)
theorem over:Rows.fnPrgNodeRow.holds Tryd.pinned (OpenSpec.ofChange Rows.fnPrgNodeSpec):=
  OpenClaim.holds_of_wide 4 Tryd.f4 rfl rfl rfl rfl rfl rfl rfl ⟨rfl,rfl,rfl,rfl,rfl⟩ rfl rfl rfl rfl rfl named_ Tryd.func4 closed inst_ wrap_
    (fun os started H enc _=>lifted os started H enc)
theorem card:Rows.FnPrgNodeCardSaid:=
  Claim7.holds_tied_plain_at .later [] [.data, .pinned] true (true, "f045b175de8376598349c0e5f4aa9405467945c4d811aaec98045cf7205f6236") false over (fun _ h => by cases h) wfb_ (fun _ h => by cases h) fnPrgNode_row_tie rfl ⟨rfl, rfl⟩ main_ rfl
    (fun f fn hf hfn=>by
      obtain rfl:f=4:=Option.some.inj (named_.symm.trans hf) |>.symm
      obtain rfl:fn=Tryd.f4:=(Option.some.inj (Tryd.func4.symm.trans hfn)).symm
      exact ⟨looks_,fun j t ht=>by
        rw [Tryd.params4] at ht
        have hm:t ∈ [33]:=by simpa using Array.mem_of_getElem? ht
        exact (show Tryd.prog.wantsStandIn t=false by simpa using List.all_eq_true.1 stand_ t hm)⟩)
    goes_
end Go.Proofs.YtlhniagacegbeaaDoor.RowFnPrgNode
namespace Go.Proofs.YtlhniagacegbeaaDoor
theorem fnPrgNode_holds:Rows.FnPrgNodeCardSaid:=RowFnPrgNode.card
#print axioms fnPrgNode_holds
end Go.Proofs.YtlhniagacegbeaaDoor
