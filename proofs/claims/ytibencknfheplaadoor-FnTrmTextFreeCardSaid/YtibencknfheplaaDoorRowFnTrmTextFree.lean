/- THE ROW of FnTrmTextFree: for every input the law returns true and its arguments read as they did; out of the pure statement Pu.FnTrmTextFree and the contract of the call. Conditions: none beyond the row's own. -/
import Derived.Test.YtibencknfheplaaDoorRowFFnTrmTextFree
import Derived.Test.YtibencknfheplaaDoorRowGFnTrmTextFree
import Derived.Test.YtibencknfheplaaDoorRows
import Derived.Test.YtibencknfheplaaDoorTie
import Derived.Test.YtibencknfheplaaDoorCards
import Derived.Test.YtibencknfheplaaDoorP12
import Derived.Test.YtibencknfheplaaDoorPuFnTrmTextFree
import Derived.Test.YtibencknfheplaaDoorMOpen
import Derived.Lib.LaidTab
import Derived.Stop.LaidErr
import Derived.Lib.AppendIntMem
import Derived.WalkKit
import Derived.ProofKit
import Derived.OpenShut
import Derived.ShutString
import Derived.ChangeOld
import Derived.Below
import Derived.SizedLaws
import Derived.LaidMore
import Derived.Lay
import Derived.SevenTiedAt
import Derived.Stop.Joined
namespace Go.Proofs.YtibencknfheplaaDoor.RowFnTrmTextFree
open Go.ChangeShapes Go.WideShapes Go.ChangeAt Go.RowKit Go.Proofs.YtibencknfheplaaDoor.Opn Go.Proofs.YtibencknfheplaaDoor.P Go.Proofs.YtibencknfheplaaDoorW.PrintWords
open Go.ChangeMaps (open_string shut_string)
set_option linter.unusedVariables false
set_option linter.unusedSimpArgs false
theorem star_ : "*" ++ "errors.errorString" = "*errors.errorString" := by decide
theorem rowErr_ (u : TypeId) (h : Tryd.prog.typeName? 3 u = some "*errors.errorString") : u = 127 := typeName_ptr_named (nm := "errors.errorString") (by rw [star_]; kernel_rfl) (by kernel_rfl) (by decide) u (by rw [star_]; exact h)
set_option maxRecDepth 100000 in
theorem lifted (os:Os) (started:os.Started) (H:Type) (enc:TypeId × Value→H) :
    ReturnsInHanded {} Tryd.checked os 4 .any (fun w args=>(Rows.fnTrmTextFreeSpec.pre enc Tryd.prog Tryd.f4 Rows.fnTrmTextFreeRow.domain false w args∧laidMetH Tryd.prog Rows.fnTrmTextFreeRow.laid w)∧sizedMet enc Tryd.prog Tryd.f4 (OpenSpec.ofChange Rows.fnTrmTextFreeSpec) false w args)
      (Rows.fnTrmTextFreeSpec.post enc Tryd.prog Tryd.f4 false true false false):=by
  refine returnsInHanded_of_change_and (C:=Tryd.checked) (X:=fun w _=>laidMetH Tryd.prog Rows.fnTrmTextFreeRow.laid w) (fun _ _ _ hh h=>h.of_heap hh) own started (by kernel_rfl) Tryd.func4
    (ChangeSpec.witness_shaped (enc:=enc) (C:=Tryd.checked) (os:=os) (X:=fun w _=>laidMetH Tryd.prog Rows.fnTrmTextFreeRow.laid w) false (World.laidAll Tryd.prog os Rows.fnTrmTextFreeRow.laid) #[.slice none 0 0] 8 (World.laidAll_os _ _ _)
      (World.shaped_of_ZipB (by kernel_rfl) (by kernel_rfl)) (by kernel_rfl) (by kernel_rfl) (by kernel_rfl)
      (by rw [MakeChecks.laidMetH_plain _ _ _ (by kernel_rfl)];exact laidMet_laidAll _ (by kernel_rfl) (by kernel_rfl))) ?_
  intro W base args ds gs before hval0 hW hcnd hsz0 hL hshaped
  have hsz:(DataW.weightsEach Tryd.prog (Tryd.f4.params.toList++Rows.fnTrmTextFreeSpec.plain.varTypes Tryd.prog) (ds++gs)).all (·≤reachBytes)=true:=hsz0
  have hval:∀ (j:Nat) t v,Tryd.f4.params[j]?=some t→args[j]?=some v→Value.okWide Tryd.prog W .any base t v:=hval0
  have hW':=hW
  obtain ⟨p,q,hA0,hV,rfl,hfz,hnd⟩:=hW
  have hA:DataW.TrodAll enc Tryd.prog W 0 (fun _=>true) true Tryd.f4.params.toList args.toList ds p:=hA0
  rw [Tryd.params4] at hA hval hsz
  obtain ⟨v0,vs0,d0,ds0,p0,q0,hargs,rfl,rfl,h0,r0⟩:=trodAll_cons hA
  obtain ⟨rfl,rfl,rfl⟩:=trodAll_nil r0
  obtain rfl:args = #[v0]:=by cases args;simp_all
  obtain ⟨rfl,rfl⟩:=trodVars_none hV
  obtain ⟨a0,len0,cap0,rfl⟩:=okWide_slice Tryd.underlying29 (hval 0 29 v0 rfl rfl)
  have k0:=h0
  have lt0:∀ x ∈ p0,x.block<W.heap.size:=by obtain ⟨m,hm⟩:=k0;exact DataW.trod_lt m _ _ _ hm
  obtain ⟨l0,rfl,hc0,hC0,hok0⟩:=of_arg (opens_slice (e':=5) Tryd.underlying29 (by kernel_rfl) (opens_int Tryd.underlying5)) h0
  clear hA0 hval0 hsz0 hsz
  obtain ⟨k,hk⟩:=Pu.FnTrmTextFree l0 hok0
  have hL2:=hL
  rw [MakeChecks.laidMetH_plain _ _ _ (by kernel_rfl)] at hL2
  have hL3 : laidMet Tryd.prog [("math/bits.deBruijn32tab", Rows.laid_math_bits_deBruijn32tab), ("math/bits.deBruijn64tab", Rows.laid_math_bits_deBruijn64tab), ("internal/strconv.uint64pow10", Rows.laid_internal_strconv_uint64pow10), ("unicode/utf8.acceptRanges", Rows.laid_unicode_utf8_acceptRanges), ("strconv.ErrRange", Rows.laid_strconv_ErrRange), ("strconv.ErrSyntax", Rows.laid_strconv_ErrSyntax), ("unicode/utf8.first", Rows.laid_unicode_utf8_first)] W := hL2
  have hT : TabT W := Lib.tabBelow_of_tabIs (Lib.tabIs_of_head (g := 2) (n := 20) (t := 121) (e := 104) (by kernel_rfl) (by kernel_rfl) Tryd.underlying121 Tryd.underlying104 (by kernel_rfl) (by kernel_rfl) (show laidMet Tryd.prog (("internal/strconv.uint64pow10", Lib.tabData .u64 Lib.pow10Tab) :: _) W from hL3.tail.tail))
  have hE : ErrT W := ⟨(errVar (by kernel_rfl : Tryd.prog.globalNamed "strconv.ErrSyntax" = some 0) (laid_sentinel hL3.tail.tail.tail.tail.tail (by kernel_rfl : Tryd.prog.globalNamed "strconv.ErrSyntax" = some 0) (by kernel_rfl) Tryd.underlying64 rowErr_ Tryd.underlying127 Tryd.underlying129 rfl rfl Tryd.underlying9 (by kernel_rfl) (by kernel_rfl))), (errVar (by kernel_rfl : Tryd.prog.globalNamed "strconv.ErrRange" = some 1) (laid_sentinel hL3.tail.tail.tail.tail (by kernel_rfl : Tryd.prog.globalNamed "strconv.ErrRange" = some 1) (by kernel_rfl) Tryd.underlying64 rowErr_ Tryd.underlying127 Tryd.underlying129 rfl rfl Tryd.underlying9 (by kernel_rfl) (by kernel_rfl)))⟩
  refine (laws_FnTrmTextFree.calls (hT_:=hT) (hE_:=hE) k _ _ l0 true W hC0 hc0 hk).mono fun e W' ⟨he,bel⟩=>?_
  subst he
  exact ⟨_,rfl,_,_,_,[],_,[],hW',trodAll_mk1 (shut_bool Tryd.underlying4 _),(trodAll_cons_mk (Below.trod laidOut (by kernel_rfl) (of_decide_eq_true (by kernel_rfl)) k0 bel lt0) trodAll_mk0),rfl,bel.frame _,fun h=>by cases h⟩
theorem an {a b:Bool} (h:a=true) (k:b=true):(a && b)=true:=by rw [h,k];rfl
set_option maxRecDepth 100000 in
theorem closed:joinedFacts Tryd.prog 4 Tryd.f4 Rows.fnTrmTextFreeSpec Rows.fnTrmTextFreeRow=true:=(an (an (an (an (an (an (an (an (an (an (an (an (an (an (an (an (an (an (an (an (an (an (an (an (an (an (an (an (an (an (an jf0 jf1) jf2) jf3) jf4) jf5) jf6) jf7) jf8) jf9) jf10) jf11) jf12) jf13) jf14) jf15) jf16) jf17) jf18) jf19) jf20) jf21) jf22) jf23) jf24) jf25) jf26) jf27) jf28) jf29) jf30) jf31)
theorem over:Rows.fnTrmTextFreeRow.holds Tryd.pinned (OpenSpec.ofChange Rows.fnTrmTextFreeSpec):=
  OpenClaim.holds_of_wide 4 Tryd.f4 rfl rfl rfl rfl rfl rfl rfl ⟨rfl,rfl,rfl,rfl,rfl⟩ rfl rfl rfl rfl rfl named_ Tryd.func4 closed inst_ wrap_
    (fun os started H enc _=>lifted os started H enc)
theorem card:Rows.FnTrmTextFreeCardSaid:=
  Claim7.holds_tied_plain_at .later [] [.data, .data, .data, .data, .sentinel, .sentinel, .pinned] true (true, "3082b26434d0b93c836d674f7e06f444858e38d78c794ac6c9a71581c5d83494") true over (fun _ h => by cases h) wfb_ (fun _ h => by cases h) fnTrmTextFree_row_tie rfl ⟨rfl, rfl⟩ main_ rfl
    (fun f fn hf hfn=>by
      obtain rfl:f=4:=Option.some.inj (named_.symm.trans hf) |>.symm
      obtain rfl:fn=Tryd.f4:=(Option.some.inj (Tryd.func4.symm.trans hfn)).symm
      exact ⟨looks_,fun j t ht=>by
        rw [Tryd.params4] at ht
        have hm:t ∈ [29]:=by simpa using Array.mem_of_getElem? ht
        exact (show Tryd.prog.wantsStandIn t=false by simpa using List.all_eq_true.1 stand_ t hm)⟩)
    goes_
end Go.Proofs.YtibencknfheplaaDoor.RowFnTrmTextFree
namespace Go.Proofs.YtibencknfheplaaDoor
/-- The row of FnTrmTextFree. -/
theorem fnTrmTextFree_holds:Rows.FnTrmTextFreeCardSaid:=RowFnTrmTextFree.card
#print axioms fnTrmTextFree_holds
end Go.Proofs.YtibencknfheplaaDoor
