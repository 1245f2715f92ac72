/- THE ROW of FnTrmCanon: for every input the law returns true and its arguments read as they did; out of the pure statement Pu.FnTrmCanon and the contract of the call. Conditions: none beyond the row's own. -/
import Derived.Test.YtlmeookaanjdiaaDoorRows
import Derived.Test.YtlmeookaanjdiaaDoorTie
import Derived.Test.YtlmeookaanjdiaaDoorCards
import Derived.Test.YtlmeookaanjdiaaDoorP14
import Derived.Test.YtlmeookaanjdiaaDoorPuFnTrmCanon
import Derived.Test.YtlmeookaanjdiaaDoorMOpen
import Derived.WalkKit
import Derived.ProofKit
import Derived.OpenShut
import Derived.ShutString
import Derived.ChangeOld
import Derived.Below
import Derived.SizedLaws
import Derived.LaidMore
import Derived.Lay
import Derived.SevenTiedAt
import Derived.Stop.Joined
namespace Go.Proofs.YtlmeookaanjdiaaDoor.RowFnTrmCanon
open Go.ChangeShapes Go.WideShapes Go.ChangeAt Go.RowKit Go.Proofs.YtlmeookaanjdiaaDoor.Opn Go.Proofs.YtlmeookaanjdiaaDoor.P Go.Proofs.YtlmeookaanjdiaaDoorW.PrintWords
open Go.ChangeMaps (open_string shut_string)
set_option linter.unusedVariables false
set_option linter.unusedSimpArgs false
theorem own : ownKnob Tryd.prog.godebug = none := by kernel_rfl
theorem laidOut : laidOutB Tryd.prog = true := by kernel_rfl
set_option maxRecDepth 100000 in
theorem lifted (os : Os) (started : os.Started) (H : Type) (enc : TypeId × Value → H) :
    ReturnsInHanded {} Tryd.checked os 16 .any (fun w args => (Rows.fnTrmCanonSpec.pre enc Tryd.prog Tryd.f16 Rows.fnTrmCanonRow.domain false w args ∧ laidMetH Tryd.prog Rows.fnTrmCanonRow.laid w) ∧ sizedMet enc Tryd.prog Tryd.f16 (OpenSpec.ofChange Rows.fnTrmCanonSpec) false w args)
      (Rows.fnTrmCanonSpec.post enc Tryd.prog Tryd.f16 false true false false) := by
  refine returnsInHanded_of_change_and (C := Tryd.checked) (X := fun w _ => laidMetH Tryd.prog Rows.fnTrmCanonRow.laid w) (fun _ _ _ hh h => h.of_heap hh) own started (by kernel_rfl) Tryd.func16
    (ChangeSpec.witness_shaped (enc := enc) (C := Tryd.checked) (os := os) (X := fun w _ => laidMetH Tryd.prog Rows.fnTrmCanonRow.laid w) false (World.laidAll Tryd.prog os Rows.fnTrmCanonRow.laid) #[.slice none 0 0, .slice none 0 0] 8 (World.laidAll_os _ _ _)
      (World.shaped_of_ZipB (by kernel_rfl) (by kernel_rfl)) (by kernel_rfl) (by kernel_rfl) (by kernel_rfl)
      (by rw [MakeChecks.laidMetH_plain _ _ _ (by kernel_rfl)]; exact laidMet_laidAll _ (by kernel_rfl) (by kernel_rfl))) ?_
  intro W base args ds gs before hval0 hW hcnd hsz0 hL hshaped
  have hsz : (DataW.weightsEach Tryd.prog (Tryd.f16.params.toList ++ Rows.fnTrmCanonSpec.plain.varTypes Tryd.prog) (ds ++ gs)).all (· ≤ reachBytes) = true := hsz0
  have hval : ∀ (j : Nat) t v, Tryd.f16.params[j]? = some t → args[j]? = some v → Value.okWide Tryd.prog W .any base t v := hval0
  have hW' := hW
  obtain ⟨p, q, hA0, hV, rfl, hfz, hnd⟩ := hW
  have hA : DataW.TrodAll enc Tryd.prog W 0 (fun _ => true) true Tryd.f16.params.toList args.toList ds p := hA0
  rw [Tryd.params16] at hA hval hsz
  obtain ⟨v0, vs0, d0, ds0, p0, q0, hargs, rfl, rfl, h0, r0⟩ := trodAll_cons hA
  obtain ⟨v1, vs1, d1, ds1, p1, q1, rfl, rfl, rfl, h1, r1⟩ := trodAll_cons r0
  obtain ⟨rfl, rfl, rfl⟩ := trodAll_nil r1
  obtain rfl : args = #[v0, v1] := by cases args; simp_all
  obtain ⟨rfl, rfl⟩ := trodVars_none hV
  obtain ⟨a0, len0, cap0, rfl⟩ := okWide_slice Tryd.underlying29 (hval 0 29 v0 rfl rfl)
  have k0 := h0
  have lt0 : ∀ x ∈ p0, x.block < W.heap.size := by obtain ⟨m, hm⟩ := k0; exact DataW.trod_lt m _ _ _ hm
  obtain ⟨l0, rfl, hc0, hC0, hok0⟩ := of_arg (opens_slice (e' := 5) Tryd.underlying29 (by kernel_rfl) (opens_int Tryd.underlying5)) h0
  obtain ⟨a1, len1, cap1, rfl⟩ := okWide_slice Tryd.underlying29 (hval 1 29 v1 rfl rfl)
  have k1 := h1
  have lt1 : ∀ x ∈ p1, x.block < W.heap.size := by obtain ⟨m, hm⟩ := k1; exact DataW.trod_lt m _ _ _ hm
  obtain ⟨l1, rfl, hc1, hC1, hok1⟩ := of_arg (opens_slice (e' := 5) Tryd.underlying29 (by kernel_rfl) (opens_int Tryd.underlying5)) h1
  clear hA0 hval0 hsz0 hsz
  obtain ⟨k, hk⟩ := Pu.FnTrmCanon l0 hok0 l1 hok1
  refine (laws_FnTrmCanon.calls k _ _ l0 _ _ l1 true W hC0 hc0 hC1 hc1 hk).mono fun e W' ⟨he, bel⟩ => ?_
  subst he
  exact ⟨_, rfl, _, _, _, [], _, [], hW', trodAll_mk1 (shut_bool Tryd.underlying4 _), (trodAll_cons_mk (Below.trod laidOut (by kernel_rfl) (of_decide_eq_true (by kernel_rfl)) k0 bel lt0) (trodAll_cons_mk (Below.trod laidOut (by kernel_rfl) (of_decide_eq_true (by kernel_rfl)) k1 bel lt1) trodAll_mk0)), rfl, bel.frame _, fun h => by cases h⟩
theorem jf0 : (Rows.fnTrmCanonRow.wf (OpenSpec.ofChange Rows.fnTrmCanonSpec)) = true := by kernel_rfl
theorem jf1 : (laidOutB Tryd.prog) = true := by kernel_rfl
theorem jf2 : (mapsRowed Tryd.prog) = true := by kernel_rfl
theorem jf3 : (Tryd.f16.params.all (Tryd.prog.readableRec ·)) = true := by kernel_rfl
theorem jf4 : (namedTie Tryd.prog Rows.fnTrmCanonRow.named Rows.fnTrmCanonSpec.vars) = true := by kernel_rfl
theorem jf5 : ((Rows.fnTrmCanonRow.stops == [])) = true := by kernel_rfl
theorem jf6 : ((Tryd.prog.stops == [])) = true := by kernel_rfl
theorem jf7 : ((Rows.fnTrmCanonRow.knobs == [])) = true := by kernel_rfl
theorem jf8 : ((Tryd.prog.stopKnobs == [])) = true := by kernel_rfl
theorem jf9 : ((Rows.fnTrmCanonRow.inPlace == Tryd.prog.inPlace 16)) = true := by kernel_rfl
theorem jf10 : ((Rows.fnTrmCanonRow.unfollowed == Tryd.prog.unfollowed 16)) = true := by kernel_rfl
theorem jf11 : ((Rows.fnTrmCanonRow.recurses == Tryd.prog.recurses 16)) = true := by kernel_rfl
theorem jf12 : ((Rows.fnTrmCanonRow.named == Tryd.prog.varsNamed 16)) = true := by kernel_rfl
theorem jf13 : ((Rows.fnTrmCanonRow.maps == (Tryd.f16.params.toList ++ Rows.fnTrmCanonSpec.plain.varTypes Tryd.prog).any (Tryd.prog.mapsRec ·))) = true := by kernel_rfl
theorem jf14 : ((Rows.fnTrmCanonRow.ifaces == (Tryd.f16.params.toList ++ Rows.fnTrmCanonSpec.plain.varTypes Tryd.prog).any (Tryd.prog.ifacesRec ·))) = true := by kernel_rfl
theorem jf15 : ((Rows.fnTrmCanonRow.mapsOut == Tryd.prog.mapsAmong Tryd.f16.resultTypes.toList)) = true := by kernel_rfl
theorem jf16 : ((Rows.fnTrmCanonRow.loops == (Tryd.f16.params.toList ++ Rows.fnTrmCanonSpec.plain.varTypes Tryd.prog).any (Tryd.prog.loopsFrom ·))) = true := by kernel_rfl
theorem jf17 : ((Rows.fnTrmCanonRow.wideKeys == (Tryd.f16.params.toList ++ Rows.fnTrmCanonSpec.plain.varTypes Tryd.prog ++ Tryd.f16.resultTypes.toList).any (Tryd.prog.wideKeysFrom ·))) = true := by kernel_rfl
theorem jf18 : (Rows.fnTrmCanonSpec.vars.all (Tryd.prog.varReadable ·)) = true := by kernel_rfl
theorem jf19 : (Tryd.f16.resultTypes.all (fun t => Tryd.prog.readableRec t && decide (t < Tryd.prog.types.size))) = true := by kernel_rfl
theorem jf20 : ((Rows.fnTrmCanonRow.ifacesOut == Tryd.f16.resultTypes.toList.any (Tryd.prog.ifacesRec ·))) = true := by kernel_rfl
theorem jf21 : ((Rows.fnTrmCanonRow.loopsOut == Tryd.f16.resultTypes.toList.any (Tryd.prog.loopsFrom ·))) = true := by kernel_rfl
theorem jf22 : ((Rows.fnTrmCanonRow.plainKeys == Tryd.prog.plainKeys)) = true := by kernel_rfl
theorem jf23 : (Rows.fnTrmCanonRow.shortTexts.isNone) = true := by kernel_rfl
theorem jf24 : (Tryd.prog.stopsHeard) = true := by kernel_rfl
theorem jf25 : (Tryd.prog.mayEnter) = true := by kernel_rfl
theorem jf26 : ((Rows.fnTrmCanonRow.lifted == Tryd.prog.liftsFinal)) = true := by kernel_rfl
theorem jf27 : ((Tryd.prog.make == some Rows.fnTrmCanonRow.make)) = true := by kernel_rfl
theorem jf28 : ((Rows.fnTrmCanonRow.kinds == (if Rows.fnTrmCanonRow.domain.isEmpty then [] else Tryd.f16.params.toList.map fun t => match Tryd.prog.underlying t with | some (.int k) => some k | _ => none))) = true := by kernel_rfl
theorem jf29 : ((Rows.fnTrmCanonRow.pinned == Rows.fnTrmCanonRow.pinnedBy)) = true := by kernel_rfl
theorem jf30 : ((Rows.fnTrmCanonRow.veiled == (Tryd.f16.params.toList ++ Rows.fnTrmCanonSpec.plain.varTypes Tryd.prog ++ Tryd.f16.resultTypes.toList).any (Tryd.prog.veiledRec ·))) = true := by kernel_rfl
theorem jf31 : (Rows.fnTrmCanonRow.veiledFits Tryd.prog Tryd.f16.params.toList (Tryd.f16.params.toList ++ Rows.fnTrmCanonSpec.plain.varTypes Tryd.prog ++ Tryd.f16.resultTypes.toList)) = true := by kernel_rfl
theorem an {a b : Bool} (h : a = true) (k : b = true) : (a && b) = true := by rw [h, k]; rfl
set_option maxRecDepth 100000 in
theorem closed : joinedFacts Tryd.prog 16 Tryd.f16 Rows.fnTrmCanonSpec Rows.fnTrmCanonRow = true := (an (an (an (an (an (an (an (an (an (an (an (an (an (an (an (an (an (an (an (an (an (an (an (an (an (an (an (an (an (an (an jf0 jf1) jf2) jf3) jf4) jf5) jf6) jf7) jf8) jf9) jf10) jf11) jf12) jf13) jf14) jf15) jf16) jf17) jf18) jf19) jf20) jf21) jf22) jf23) jf24) jf25) jf26) jf27) jf28) jf29) jf30) jf31)
theorem named_ : Tryd.prog.funcNamed "loop.example/catechist/laws.FnTrmCanon" = some 16 := by kernel_rfl
theorem inst_ : Tryd.f16.isInstance Tryd.prog Rows.fnTrmCanonRow.origin Rows.fnTrmCanonRow.targs := of_decide_eq_true (by kernel_rfl)
theorem wrap_ : Tryd.f16.isWrapper Tryd.prog Rows.fnTrmCanonRow.wrapper Rows.fnTrmCanonRow.mainSum := by unfold Func.isWrapper; first | (rw [if_pos (by decide +kernel)]; kernel_rfl) | (rw [if_neg (by decide +kernel)]; exact ⟨rfl, rfl⟩)
theorem over : Rows.fnTrmCanonRow.holds Tryd.pinned (OpenSpec.ofChange Rows.fnTrmCanonSpec) :=
  OpenClaim.holds_of_wide 16 Tryd.f16 rfl rfl rfl rfl rfl rfl rfl ⟨rfl, rfl, rfl, rfl, rfl⟩ rfl rfl rfl rfl rfl named_ Tryd.func16 closed inst_ wrap_
    (fun os started H enc _ => lifted os started H enc)
theorem wfb_ : Rows.fnTrmCanonRow.wfByText (OpenSpec.ofChange Rows.fnTrmCanonSpec) = true := by kernel_rfl
theorem main_ : Tryd.prog.mainIs = some (true, "a501c2ab492a422e7f50fa6eccaeb63a40faa7a86304c4b639f412465e0333ec".toList) := by kernel_rfl
theorem looks_ : false = Tryd.prog.looks [] := by kernel_rfl
theorem stand_ : ([29, 29].all fun u => !Tryd.prog.wantsStandIn u) = true := by kernel_rfl
theorem goes_ : false = Rows.fnTrmCanonRow.goesBy Tryd.prog := by kernel_rfl
theorem card : Rows.FnTrmCanonCardSaid :=
  Claim7.holds_tied_plain_at .later [] [.data, .pinned] true (true, "a501c2ab492a422e7f50fa6eccaeb63a40faa7a86304c4b639f412465e0333ec") false over (fun _ h => by cases h) wfb_ (fun _ h => by cases h) fnTrmCanon_row_tie rfl ⟨rfl, rfl⟩ main_ rfl
    (fun f fn hf hfn => by
      obtain rfl : f = 16 := Option.some.inj (named_.symm.trans hf) |>.symm
      obtain rfl : fn = Tryd.f16 := (Option.some.inj (Tryd.func16.symm.trans hfn)).symm
      exact ⟨looks_, fun j t ht => by
        rw [Tryd.params16] at ht
        have hm : t ∈ [29, 29] := by simpa using Array.mem_of_getElem? ht
        exact (show Tryd.prog.wantsStandIn t = false by simpa using List.all_eq_true.1 stand_ t hm)⟩)
    goes_
end Go.Proofs.YtlmeookaanjdiaaDoor.RowFnTrmCanon
namespace Go.Proofs.YtlmeookaanjdiaaDoor
/-- The row of FnTrmCanon. -/
theorem fnTrmCanon_holds : Rows.FnTrmCanonCardSaid := RowFnTrmCanon.card
#print axioms fnTrmCanon_holds
end Go.Proofs.YtlmeookaanjdiaaDoor
