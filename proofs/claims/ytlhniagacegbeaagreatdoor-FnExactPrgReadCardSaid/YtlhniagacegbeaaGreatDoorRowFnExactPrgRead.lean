/- THE ROW of FnExactPrgRead: for every input the law returns true and its arguments read as they did; out of the pure statement Pu.FnExactPrgRead and the contract of the call. Conditions: none beyond the row's own. -/
import Derived.Test.YtlhniagacegbeaaGreatDoorRowFFnExactPrgRead
import Derived.Test.YtlhniagacegbeaaGreatDoorRowGFnExactPrgRead
import Derived.Test.YtlhniagacegbeaaGreatDoorRows
import Derived.Test.YtlhniagacegbeaaGreatDoorTie
import Derived.Test.YtlhniagacegbeaaGreatDoorCards
import Derived.Test.YtlhniagacegbeaaGreatDoorP7
import Derived.Test.YtlhniagacegbeaaGreatDoorPuFnExactPrgRead
import Derived.Test.YtlhniagacegbeaaGreatDoorMOpen
import Derived.Lib.LaidTab
import Derived.Stop.LaidErr
import Derived.Lib.AppendIntMem
import Derived.WalkKit
import Derived.ProofKit
import Derived.OpenShut
import Derived.ShutString
import Derived.ChangeOld
import Derived.Below
import Derived.SizedLaws
import Derived.LaidMore
import Derived.Lay
import Derived.SevenTiedAt
import Derived.Stop.Joined
namespace Go.Proofs.YtlhniagacegbeaaGreatDoor.RowFnExactPrgRead
open Go.ChangeShapes Go.WideShapes Go.ChangeAt Go.RowKit Go.Proofs.YtlhniagacegbeaaGreatDoor.Opn Go.Proofs.YtlhniagacegbeaaGreatDoor.P Go.Proofs.YtlhniagacegbeaaGreatDoorW.PrintWords
open Go.ChangeMaps (open_string shut_string)
set_option linter.unusedVariables false
set_option linter.unusedSimpArgs false
theorem star_ : "*" ++ "errors.errorString" = "*errors.errorString" := by decide
theorem rowErr_ (u : TypeId) (h : Tryz.prog.typeName? 3 u = some "*errors.errorString") : u = 159 := typeName_ptr_named (nm := "errors.errorString") (by rw [star_]; kernel_rfl) (by kernel_rfl) (by decide) u (by rw [star_]; exact h)
theorem and_shaped {H:Type} {enc:TypeId × Value→H} {a:Assume} {C:Checked} {os:Os} {f:FuncId} {fn:Func} {s:ChangeSpec} {conds:List PathCond} {apart fresh handsOn again:Bool} {X:World→Array Value→Prop} (hX:∀ (w w':World) (args:Array Value),w.heap=w'.heap→X w args→X w' args)
    (own:ownKnob C.prog.godebug=none) (started:os.Started) (noInit:C.prog.inits.idxOf? f=none) (hfn:C.prog.funcs[f]?=some fn)
    (witness:∃ (w:World) (tape:Tape) (i:Input),w.os=os∧(w.forCall tape i).Shaped C.prog∧i.vars=[]∧Input.okWide C.prog (w.forCall tape i) .any w.heap.size f i∧((s.pre enc C.prog fn conds apart (w.forCall tape i).memory i.args∧X (w.forCall tape i).memory i.args)∧sizedMet enc C.prog fn (OpenSpec.ofChange s) apart (w.forCall tape i).memory i.args)∧a.holds C.prog (lone (Frame.enter C.prog f i.args .normal) [] (w.forCall tape i)))
    (contract:∀ (W:World) (base:Nat) (args:Array Value) (ds gs:List (DataW H)) (before:List MemPlace),(∀ (j:Nat) t v,fn.params[j]?=some t→args[j]?=some v→Value.okWide C.prog W .any base t v)→DataW.Whole enc C.prog fn.params.toList s.vars apart W args.toList ds gs before→
      conds.all (PathCond.test C.prog ⟨fn.params.toList,ds,s.plain.varTypes C.prog,gs⟩)=true→(DataW.weightsEach C.prog (fn.params.toList++s.plain.varTypes C.prog) (ds++gs)).all (·≤reachBytes)=true→X W args→W.ShapedOpen C.prog→
      Calls C.prog f args W fun e W'=>∃ v,e = .returned v∧s.post enc C.prog fn apart fresh handsOn again W args v W') :
    ReturnsInHanded a C os f .any (fun w args=>(s.pre enc C.prog fn conds apart w args∧X w args)∧sizedMet enc C.prog fn (OpenSpec.ofChange s) apart w args) (s.post enc C.prog fn apart fresh handsOn again):=by
  refine returnsInHanded_of_calls own started noInit witness ?_
  intro w tape i _ hsh _ hok hpre hholds
  obtain ⟨_,_,_,fn',hfn',_,_,_,_,hval⟩:=hok
  obtain rfl:fn'=fn:=Option.some.inj (hfn'.symm.trans hfn)
  obtain ⟨⟨⟨ds,gs,before,hw,hc⟩,hx⟩,hz⟩:=hpre
  refine (contract (w.forCall tape i) w.heap.size i.args ds gs before hval (DataW.Whole.of_heap (w':=w.forCall tape i) (by rfl) hw) hc (hz.weights hw) (hX _ _ _ (by rfl) hx) hsh).mono fun e W' ⟨v,he,hp⟩=>?_
  subst he
  exact ChangeSpec.post_blind hp
set_option maxRecDepth 100000 in
theorem lifted (os:Os) (started:os.Started) (H:Type) (enc:TypeId × Value→H) :
    ReturnsInHanded {} Tryz.checked os 5 .any (fun w args=>(Rows.fnExactPrgReadSpec.pre enc Tryz.prog Tryz.f5 Rows.fnExactPrgReadRow.domain false w args∧laidMetH Tryz.prog Rows.fnExactPrgReadRow.laid w)∧sizedMet enc Tryz.prog Tryz.f5 (OpenSpec.ofChange Rows.fnExactPrgReadSpec) false w args)
      (Rows.fnExactPrgReadSpec.post enc Tryz.prog Tryz.f5 false true false false):=by
  refine and_shaped (C:=Tryz.checked) (X:=fun w _=>laidMetH Tryz.prog Rows.fnExactPrgReadRow.laid w) (fun _ _ _ hh h=>h.of_heap hh) own started (by kernel_rfl) Tryz.func5
    (ChangeSpec.witness_shaped (enc:=enc) (C:=Tryz.checked) (os:=os) (X:=fun w _=>laidMetH Tryz.prog Rows.fnExactPrgReadRow.laid w) false (World.laidAll Tryz.prog os Rows.fnExactPrgReadRow.laid) #[.string ByteArray.empty] 8 (World.laidAll_os _ _ _)
      (World.shaped_of_ZipB (by kernel_rfl) (by kernel_rfl)) (by kernel_rfl) (by kernel_rfl) (by kernel_rfl)
      (by rw [MakeChecks.laidMetH_plain _ _ _ (by kernel_rfl)];exact laidMet_laidAll _ (by kernel_rfl) (by kernel_rfl))) ?_
  intro W base args ds gs before hval0 hW hcnd hsz0 hL hshaped
  have hsz:(DataW.weightsEach Tryz.prog (Tryz.f5.params.toList++Rows.fnExactPrgReadSpec.plain.varTypes Tryz.prog) (ds++gs)).all (·≤reachBytes)=true:=hsz0
  have hval:∀ (j:Nat) t v,Tryz.f5.params[j]?=some t→args[j]?=some v→Value.okWide Tryz.prog W .any base t v:=hval0
  have hW':=hW
  obtain ⟨p,q,hA0,hV,rfl,hfz,hnd⟩:=hW
  have hA:DataW.TrodAll enc Tryz.prog W 0 (fun _=>true) true Tryz.f5.params.toList args.toList ds p:=hA0
  rw [Tryz.params5] at hA hval hsz
  obtain ⟨v0,vs0,d0,ds0,p0,q0,hargs,rfl,rfl,h0,r0⟩:=trodAll_cons hA
  obtain ⟨rfl,rfl,rfl⟩:=trodAll_nil r0
  obtain rfl:args = #[v0]:=by cases args;simp_all
  obtain ⟨rfl,rfl⟩:=trodVars_none hV
  obtain ⟨a0,rfl,rfl,rfl,y0⟩:=open_string Tryz.underlying9 (hval 0 9 v0 rfl rfl) h0
  have w0:a0.size≤140737488351232:=by
    have z:=sized_string hsz (j:=0) (t:=9) rfl rfl
    rw [Array.length_toList] at z
    exact z
  clear hA0 hval0 hsz0 hsz
  obtain ⟨k,hk⟩:=Pu.FnExactPrgRead a0 w0
  have hL2:=hL
  rw [MakeChecks.laidMetH_plain _ _ _ (by kernel_rfl)] at hL2
  have hL3 : laidMet Tryz.prog [("math/bits.deBruijn32tab", Rows.laid_math_bits_deBruijn32tab), ("math/bits.deBruijn64tab", Rows.laid_math_bits_deBruijn64tab), ("internal/strconv.uint64pow10", Rows.laid_internal_strconv_uint64pow10), ("unicode/utf8.acceptRanges", Rows.laid_unicode_utf8_acceptRanges), ("strconv.ErrRange", Rows.laid_strconv_ErrRange), ("strconv.ErrSyntax", Rows.laid_strconv_ErrSyntax), ("unicode/utf8.first", Rows.laid_unicode_utf8_first)] W := hL2
  have hT : TabT W := Lib.tabBelow_of_tabIs (Lib.tabIs_of_head (g := 5) (n := 20) (t := 163) (e := 145) (by kernel_rfl) (by kernel_rfl) Tryz.underlying163 Tryz.underlying145 (by kernel_rfl) (by kernel_rfl) (show laidMet Tryz.prog (("internal/strconv.uint64pow10", Lib.tabData .u64 Lib.pow10Tab) :: _) W from hL3.tail.tail))
  have hE : ErrT W := ⟨(errVar (by kernel_rfl : Tryz.prog.globalNamed "strconv.ErrSyntax" = some 3) (laid_sentinel hL3.tail.tail.tail.tail.tail (by kernel_rfl : Tryz.prog.globalNamed "strconv.ErrSyntax" = some 3) (by kernel_rfl) Tryz.underlying100 rowErr_ Tryz.underlying159 Tryz.underlying161 rfl rfl Tryz.underlying9 (by kernel_rfl) (by kernel_rfl))), (errVar (by kernel_rfl : Tryz.prog.globalNamed "strconv.ErrRange" = some 4) (laid_sentinel hL3.tail.tail.tail.tail (by kernel_rfl : Tryz.prog.globalNamed "strconv.ErrRange" = some 4) (by kernel_rfl) Tryz.underlying100 rowErr_ Tryz.underlying159 Tryz.underlying161 rfl rfl Tryz.underlying9 (by kernel_rfl) (by kernel_rfl)))⟩
  have hM:MaxT W:=Tryz.maxT_of W hshaped
  refine (laws_FnExactPrgRead.calls (hT_:=hT) (hE_:=hE) (hM_:=hM) k a0 true W  hk).mono fun e W' ⟨he,bel⟩=>?_
  subst he
  exact ⟨_,rfl,_,_,_,[],_,[],hW',trodAll_mk1 (shut_bool Tryz.underlying4 _),(trodAll_cons_mk (shut_string Tryz.underlying9 y0) trodAll_mk0),rfl,bel.frame _,fun h=>by cases h⟩
theorem an {a b:Bool} (h:a=true) (k:b=true):(a && b)=true:=by rw [h,k];rfl
set_option maxRecDepth 100000 in
theorem closed:joinedFacts Tryz.prog 5 Tryz.f5 Rows.fnExactPrgReadSpec Rows.fnExactPrgReadRow=true:=(an (an (an (an (an (an (an (an (an (an (an (an (an (an (an (an (an (an (an (an (an (an (an (an (an (an (an (an (an (an (an jf0 jf1) jf2) jf3) jf4) jf5) jf6) jf7) jf8) jf9) jf10) jf11) jf12) jf13) jf14) jf15) jf16) jf17) jf18) jf19) jf20) jf21) jf22) jf23) jf24) jf25) jf26) jf27) jf28) jf29) jf30) jf31)
theorem over:Rows.fnExactPrgReadRow.holds Tryz.pinned (OpenSpec.ofChange Rows.fnExactPrgReadSpec):=
  OpenClaim.holds_of_wide 5 Tryz.f5 rfl rfl rfl rfl rfl rfl rfl ⟨rfl,rfl,rfl,rfl,rfl⟩ rfl rfl rfl rfl rfl named_ Tryz.func5 closed inst_ wrap_
    (fun os started H enc _=>lifted os started H enc)
theorem card:Rows.FnExactPrgReadCardSaid:=
  Claim7.holds_tied_plain_at .later [] [.data, .data, .data, .data, .sentinel, .sentinel, .pinned] true (true, "740c88b13215636d498bb43344aa69702e7143c5b4065a851c4e7dd881474822") true over (fun _ h => by cases h) wfb_ (fun _ h => by cases h) fnExactPrgRead_row_tie rfl ⟨rfl, rfl⟩ main_ rfl
    (fun f fn hf hfn=>by
      obtain rfl:f=5:=Option.some.inj (named_.symm.trans hf) |>.symm
      obtain rfl:fn=Tryz.f5:=(Option.some.inj (Tryz.func5.symm.trans hfn)).symm
      exact ⟨looks_,fun j t ht=>by
        rw [Tryz.params5] at ht
        have hm:t ∈ [9]:=by simpa using Array.mem_of_getElem? ht
        exact (show Tryz.prog.wantsStandIn t=false by simpa using List.all_eq_true.1 stand_ t hm)⟩)
    goes_
end Go.Proofs.YtlhniagacegbeaaGreatDoor.RowFnExactPrgRead
namespace Go.Proofs.YtlhniagacegbeaaGreatDoor
/-- The row of FnExactPrgRead. -/
theorem fnExactPrgRead_holds:Rows.FnExactPrgReadCardSaid:=RowFnExactPrgRead.card
#print axioms fnExactPrgRead_holds
end Go.Proofs.YtlhniagacegbeaaGreatDoor
