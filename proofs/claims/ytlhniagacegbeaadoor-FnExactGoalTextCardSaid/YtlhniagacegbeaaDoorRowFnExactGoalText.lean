/- THE ROW of FnExactGoalText: for every input the law returns true and its arguments read as they did; out of the pure statement Pu.FnExactGoalText and the contract of the call. Conditions: none beyond the row's own. -/
import Derived.Test.YtlhniagacegbeaaDoorRowFFnExactGoalText
import Derived.Test.YtlhniagacegbeaaDoorRowGFnExactGoalText
import Derived.Test.YtlhniagacegbeaaDoorRows
import Derived.Test.YtlhniagacegbeaaDoorTie
import Derived.Test.YtlhniagacegbeaaDoorCards
import Derived.Test.YtlhniagacegbeaaDoorP12
import Derived.Test.YtlhniagacegbeaaDoorPuFnExactGoalText
import Derived.Test.YtlhniagacegbeaaDoorMOpen
import Derived.Lib.LaidTab
import Derived.Stop.LaidErr
import Derived.Lib.AppendIntMem
import Derived.WalkKit
import Derived.ProofKit
import Derived.OpenShut
import Derived.ShutString
import Derived.ChangeOld
import Derived.Below
import Derived.SizedLaws
import Derived.LaidMore
import Derived.Lay
import Derived.SevenTiedAt
import Derived.Stop.Joined
namespace Go.Proofs.YtlhniagacegbeaaDoor.RowFnExactGoalText
open Go.ChangeShapes Go.WideShapes Go.ChangeAt Go.RowKit Go.Proofs.YtlhniagacegbeaaDoor.Opn Go.Proofs.YtlhniagacegbeaaDoor.P Go.Proofs.YtlhniagacegbeaaDoorW.PrintWords
open Go.ChangeMaps (open_string shut_string)
set_option linter.unusedVariables false
set_option linter.unusedSimpArgs false
abbrev S24:=Go.Proofs.YtlhniagacegbeaaDoor.Cat.Goal
def k24:Kd S24:=Kd.iso (Kd.pair (Kd.int .i64) (Kd.pair (Kd.slice 74 k74) (Kd.pair (Kd.slice 74 k74) (Kd.slice 74 k74)))) (fun x:S24=>(x.f0,x.f1,x.f2,x.f3))
theorem k24_open {w:World} {x:S24} {cs:List Value} (h:k24.K w x cs):∃ A1 c1 A2 c2 A3 c3,cs=[.int .i64 x.f0,.slice A1 x.f1.length c1,.slice A2 x.f2.length c2,.slice A3 x.f3.length c3]∧x.f1.length≤c1∧k74.C w A1 x.f1.length x.f1∧x.f2.length≤c2∧k74.C w A2 x.f2.length x.f2∧x.f3.length≤c3∧k74.C w A3 x.f3.length x.f3:=by
  obtain ⟨a0,b0,rfl,rfl,⟨a1,b1,rfl,⟨A1,c1,rfl,l1,g1⟩,⟨a2,b2,rfl,⟨A2,c2,rfl,l2,g2⟩,⟨A3,c3,rfl,l3,g3⟩⟩⟩⟩:=h
  exact ⟨A1,c1,A2,c2,A3,c3,rfl,l1,g1,l2,g2,l3,g3⟩
def ok74 (x:S74):Prop:=((Lit.int .i64 x.f0).wf=true)∧((Lit.int .i64 x.f1).wf=true)∧(x.f2.size≤maxLen)
theorem opens74:Opens Tryd.prog 74 k74 (ok74):=opens_struct (f:=fun (x:S74)=>(x.f0,x.f1,x.f2)) (fun v=>(⟨v.1,v.2.1,v.2.2⟩:S74)) (fun _=>rfl) Tryd.underlying74 (by kernel_rfl) (opensF_cons rfl (by kernel_rfl) (opens_int Tryd.underlying3) (opensF_cons rfl (by kernel_rfl) (opens_int Tryd.underlying3) (opensF_one rfl (by kernel_rfl) (opens_string Tryd.underlying9))))
def ok24 (x:S24):Prop:=((Lit.int .i64 x.f0).wf=true)∧((x.f1).length≤maxLen∧∀ yf1 ∈ x.f1,ok74 yf1)∧((x.f2).length≤maxLen∧∀ yf2 ∈ x.f2,ok74 yf2)∧((x.f3).length≤maxLen∧∀ yf3 ∈ x.f3,ok74 yf3)
theorem opens24:Opens Tryd.prog 24 k24 (ok24):=opens_struct (f:=fun (x:S24)=>(x.f0,x.f1,x.f2,x.f3)) (fun v=>(⟨v.1,v.2.1,v.2.2.1,v.2.2.2⟩:S24)) (fun _=>rfl) Tryd.underlying24 (by kernel_rfl) (opensF_cons rfl (by kernel_rfl) (opens_int Tryd.underlying3) (opensF_cons rfl (by kernel_rfl) (opens_slice (e':=74) Tryd.underlying22 (by kernel_rfl) opens74) (opensF_cons rfl (by kernel_rfl) (opens_slice (e':=74) Tryd.underlying22 (by kernel_rfl) opens74) (opensF_one rfl (by kernel_rfl) (opens_slice (e':=74) Tryd.underlying22 (by kernel_rfl) opens74)))))
set_option maxRecDepth 100000 in
theorem lifted (os:Os) (started:os.Started) (H:Type) (enc:TypeId × Value→H) :
    ReturnsInHanded {} Tryd.checked os 3 .any (fun w args=>(Rows.fnExactGoalTextSpec.pre enc Tryd.prog Tryd.f3 Rows.fnExactGoalTextRow.domain false w args∧laidMetH Tryd.prog Rows.fnExactGoalTextRow.laid w)∧sizedMet enc Tryd.prog Tryd.f3 (OpenSpec.ofChange Rows.fnExactGoalTextSpec) false w args)
      (Rows.fnExactGoalTextSpec.post enc Tryd.prog Tryd.f3 false true false false):=by
  refine returnsInHanded_of_change_and (C:=Tryd.checked) (X:=fun w _=>laidMetH Tryd.prog Rows.fnExactGoalTextRow.laid w) (fun _ _ _ hh h=>h.of_heap hh) own started (by kernel_rfl) Tryd.func3
    (ChangeSpec.witness_shaped (enc:=enc) (C:=Tryd.checked) (os:=os) (X:=fun w _=>laidMetH Tryd.prog Rows.fnExactGoalTextRow.laid w) false (World.laidAll Tryd.prog os Rows.fnExactGoalTextRow.laid) #[.agg #[.int .i64 0,.slice none 0 0,.slice none 0 0,.slice none 0 0]] 8 (World.laidAll_os _ _ _)
      (World.shaped_of_ZipB (by kernel_rfl) (by kernel_rfl)) (by kernel_rfl) (by kernel_rfl) (by kernel_rfl)
      (by rw [MakeChecks.laidMetH_plain _ _ _ (by kernel_rfl)];exact laidMet_laidAll _ (by kernel_rfl) (by kernel_rfl))) ?_
  intro W base args ds gs before hval0 hW hcnd hsz0 hL hshaped
  have hsz:(DataW.weightsEach Tryd.prog (Tryd.f3.params.toList++Rows.fnExactGoalTextSpec.plain.varTypes Tryd.prog) (ds++gs)).all (·≤reachBytes)=true:=hsz0
  have hval:∀ (j:Nat) t v,Tryd.f3.params[j]?=some t→args[j]?=some v→Value.okWide Tryd.prog W .any base t v:=hval0
  have hW':=hW
  obtain ⟨p,q,hA0,hV,rfl,hfz,hnd⟩:=hW
  have hA:DataW.TrodAll enc Tryd.prog W 0 (fun _=>true) true Tryd.f3.params.toList args.toList ds p:=hA0
  rw [Tryd.params3] at hA hval hsz
  obtain ⟨v0,vs0,d0,ds0,p0,q0,hargs,rfl,rfl,h0,r0⟩:=trodAll_cons hA
  obtain ⟨rfl,rfl,rfl⟩:=trodAll_nil r0
  obtain rfl:args = #[v0]:=by cases args;simp_all
  obtain ⟨rfl,rfl⟩:=trodVars_none hV
  obtain ⟨cs0,rfl,_⟩:=okWide_struct Tryd.underlying24 (hval 0 24 v0 rfl rfl)
  have k0:=h0
  have lt0:∀ x ∈ p0,x.block<W.heap.size:=by obtain ⟨m,hm⟩:=k0;exact DataW.trod_lt m _ _ _ hm
  obtain ⟨x0,hK0,hok0⟩:=of_arg_st opens24 h0
  obtain ⟨A0_1,c0_1,A0_2,c0_2,A0_3,c0_3,e0,l0_1,g0_1,l0_2,g0_2,l0_3,g0_3⟩:=k24_open hK0
  obtain rfl:cs0 = #[.int .i64 x0.f0,.slice A0_1 x0.f1.length c0_1,.slice A0_2 x0.f2.length c0_2,.slice A0_3 x0.f3.length c0_3]:=Array.ext' e0
  clear hA0 hval0 hsz0 hsz
  obtain ⟨k,hk⟩:=Pu.FnExactGoalText x0 hok0
  have hL2:=hL
  rw [MakeChecks.laidMetH_plain _ _ _ (by kernel_rfl)] at hL2
  have hL3 : laidMet Tryd.prog [("math/bits.deBruijn32tab", Rows.laid_math_bits_deBruijn32tab), ("math/bits.deBruijn64tab", Rows.laid_math_bits_deBruijn64tab), ("internal/strconv.uint64pow10", Rows.laid_internal_strconv_uint64pow10), ("unicode/utf8.acceptRanges", Rows.laid_unicode_utf8_acceptRanges), ("unicode/utf8.first", Rows.laid_unicode_utf8_first)] W := hL2
  have hT : TabT W := Lib.tabBelow_of_tabIs (Lib.tabIs_of_head (g := 0) (n := 20) (t := 156) (e := 147) (by kernel_rfl) (by kernel_rfl) Tryd.underlying156 Tryd.underlying147 (by kernel_rfl) (by kernel_rfl) (show laidMet Tryd.prog (("internal/strconv.uint64pow10", Lib.tabData .u64 Lib.pow10Tab) :: _) W from hL3.tail.tail))
  refine (laws_FnExactGoalText.calls (hT_:=hT) k x0.f0 _ _ x0.f1 _ _ x0.f2 _ _ x0.f3 true W g0_1 l0_1 g0_2 l0_2 g0_3 l0_3 hk).mono fun e W' ⟨he,bel⟩=>?_
  subst he
  exact ⟨_,rfl,_,_,_,[],_,[],hW',trodAll_mk1 (shut_bool Tryd.underlying4 _),(trodAll_cons_mk (Below.trod laidOut (by kernel_rfl) (of_decide_eq_true (by kernel_rfl)) k0 bel lt0) trodAll_mk0),rfl,bel.frame _,fun h=>by cases h⟩
theorem an {a b:Bool} (h:a=true) (k:b=true):(a && b)=true:=by rw [h,k];rfl
set_option maxRecDepth 100000 in
theorem closed:joinedFacts Tryd.prog 3 Tryd.f3 Rows.fnExactGoalTextSpec Rows.fnExactGoalTextRow=true:=(an (an (an (an (an (an (an (an (an (an (an (an (an (an (an (an (an (an (an (an (an (an (an (an (an (an (an (an (an (an (an jf0 jf1) jf2) jf3) jf4) jf5) jf6) jf7) jf8) jf9) jf10) jf11) jf12) jf13) jf14) jf15) jf16) jf17) jf18) jf19) jf20) jf21) jf22) jf23) jf24) jf25) jf26) jf27) jf28) jf29) jf30) jf31)
theorem over:Rows.fnExactGoalTextRow.holds Tryd.pinned (OpenSpec.ofChange Rows.fnExactGoalTextSpec):=
  OpenClaim.holds_of_wide 3 Tryd.f3 rfl rfl rfl rfl rfl rfl rfl ⟨rfl,rfl,rfl,rfl,rfl⟩ rfl rfl rfl rfl rfl named_ Tryd.func3 closed inst_ wrap_
    (fun os started H enc _=>lifted os started H enc)
theorem card:Rows.FnExactGoalTextCardSaid:=
  Claim7.holds_tied_plain_at .later [] [.data, .data, .data, .data, .pinned] true (true, "f045b175de8376598349c0e5f4aa9405467945c4d811aaec98045cf7205f6236") false over (fun _ h => by cases h) wfb_ (fun _ h => by cases h) fnExactGoalText_row_tie rfl ⟨rfl, rfl⟩ main_ rfl
    (fun f fn hf hfn=>by
      obtain rfl:f=3:=Option.some.inj (named_.symm.trans hf) |>.symm
      obtain rfl:fn=Tryd.f3:=(Option.some.inj (Tryd.func3.symm.trans hfn)).symm
      exact ⟨looks_,fun j t ht=>by
        rw [Tryd.params3] at ht
        have hm:t ∈ [24]:=by simpa using Array.mem_of_getElem? ht
        exact (show Tryd.prog.wantsStandIn t=false by simpa using List.all_eq_true.1 stand_ t hm)⟩)
    goes_
end Go.Proofs.YtlhniagacegbeaaDoor.RowFnExactGoalText
namespace Go.Proofs.YtlhniagacegbeaaDoor
/-- The row of FnExactGoalText. -/
theorem fnExactGoalText_holds:Rows.FnExactGoalTextCardSaid:=RowFnExactGoalText.card
#print axioms fnExactGoalText_holds
end Go.Proofs.YtlhniagacegbeaaDoor
