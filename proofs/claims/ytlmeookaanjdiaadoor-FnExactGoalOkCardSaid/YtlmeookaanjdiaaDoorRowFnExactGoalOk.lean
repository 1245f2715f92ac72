/- THE ROW of FnExactGoalOk: for every input the law returns true and its arguments read as they did; out of the pure statement Pu.FnExactGoalOk and the contract of the call. Conditions: none beyond the row's own. -/
import Derived.Test.YtlmeookaanjdiaaDoorRows
import Derived.Test.YtlmeookaanjdiaaDoorTie
import Derived.Test.YtlmeookaanjdiaaDoorCards
import Derived.Test.YtlmeookaanjdiaaDoorP11
import Derived.Test.YtlmeookaanjdiaaDoorPuFnExactGoalOk
import Derived.Test.YtlmeookaanjdiaaDoorMOpen
import Derived.WalkKit
import Derived.ProofKit
import Derived.OpenShut
import Derived.ShutString
import Derived.ChangeOld
import Derived.Below
import Derived.SizedLaws
import Derived.LaidMore
import Derived.Lay
import Derived.SevenTiedAt
import Derived.Stop.Joined
namespace Go.Proofs.YtlmeookaanjdiaaDoor.RowFnExactGoalOk
open Go.ChangeShapes Go.WideShapes Go.ChangeAt Go.RowKit Go.Proofs.YtlmeookaanjdiaaDoor.Opn Go.Proofs.YtlmeookaanjdiaaDoor.P Go.Proofs.YtlmeookaanjdiaaDoorW.PrintWords
open Go.ChangeMaps (open_string shut_string)
set_option linter.unusedVariables false
set_option linter.unusedSimpArgs false
abbrev S42 := Go.Proofs.YtlmeookaanjdiaaDoor.Cat.Goal
def k42 : Kd S42 := Kd.iso (Kd.pair (Kd.int .i64) (Kd.pair (Kd.slice 81 k81) (Kd.pair (Kd.slice 81 k81) (Kd.slice 81 k81)))) (fun x : S42 => (x.f0, x.f1, x.f2, x.f3))
theorem k42_open {w : World} {x : S42} {cs : List Value} (h : k42.K w x cs) : ∃ A1 c1 A2 c2 A3 c3, cs = [.int .i64 x.f0, .slice A1 x.f1.length c1, .slice A2 x.f2.length c2, .slice A3 x.f3.length c3] ∧ x.f1.length ≤ c1 ∧ k81.C w A1 x.f1.length x.f1 ∧ x.f2.length ≤ c2 ∧ k81.C w A2 x.f2.length x.f2 ∧ x.f3.length ≤ c3 ∧ k81.C w A3 x.f3.length x.f3 := by
  obtain ⟨a0, b0, rfl, rfl, ⟨a1, b1, rfl, ⟨A1, c1, rfl, l1, g1⟩, ⟨a2, b2, rfl, ⟨A2, c2, rfl, l2, g2⟩, ⟨A3, c3, rfl, l3, g3⟩⟩⟩⟩ := h
  exact ⟨A1, c1, A2, c2, A3, c3, rfl, l1, g1, l2, g2, l3, g3⟩
def ok81 (x : S81) : Prop := ((Lit.int .i64 x.f0).wf = true) ∧ ((Lit.int .i64 x.f1).wf = true) ∧ (x.f2.size ≤ maxLen)
theorem opens81 : Opens Tryd.prog 81 k81 (ok81) := opens_struct (f := fun (x : S81) => (x.f0, x.f1, x.f2)) (fun v => (⟨v.1, v.2.1, v.2.2⟩ : S81)) (fun _ => rfl) Tryd.underlying81 (by kernel_rfl) (opensF_cons rfl (by kernel_rfl) (opens_int Tryd.underlying3) (opensF_cons rfl (by kernel_rfl) (opens_int Tryd.underlying3) (opensF_one rfl (by kernel_rfl) (opens_string Tryd.underlying9))))
def ok42 (x : S42) : Prop := ((Lit.int .i64 x.f0).wf = true) ∧ ((x.f1).length ≤ maxLen ∧ ∀ yf1 ∈ x.f1, ok81 yf1) ∧ ((x.f2).length ≤ maxLen ∧ ∀ yf2 ∈ x.f2, ok81 yf2) ∧ ((x.f3).length ≤ maxLen ∧ ∀ yf3 ∈ x.f3, ok81 yf3)
theorem opens42 : Opens Tryd.prog 42 k42 (ok42) := opens_struct (f := fun (x : S42) => (x.f0, x.f1, x.f2, x.f3)) (fun v => (⟨v.1, v.2.1, v.2.2.1, v.2.2.2⟩ : S42)) (fun _ => rfl) Tryd.underlying42 (by kernel_rfl) (opensF_cons rfl (by kernel_rfl) (opens_int Tryd.underlying3) (opensF_cons rfl (by kernel_rfl) (opens_slice (e' := 81) Tryd.underlying22 (by kernel_rfl) opens81) (opensF_cons rfl (by kernel_rfl) (opens_slice (e' := 81) Tryd.underlying22 (by kernel_rfl) opens81) (opensF_one rfl (by kernel_rfl) (opens_slice (e' := 81) Tryd.underlying22 (by kernel_rfl) opens81)))))
theorem own : ownKnob Tryd.prog.godebug = none := by kernel_rfl
theorem laidOut : laidOutB Tryd.prog = true := by kernel_rfl
set_option maxRecDepth 100000 in
theorem lifted (os : Os) (started : os.Started) (H : Type) (enc : TypeId × Value → H) :
    ReturnsInHanded {} Tryd.checked os 7 .any (fun w args => (Rows.fnExactGoalOkSpec.pre enc Tryd.prog Tryd.f7 Rows.fnExactGoalOkRow.domain false w args ∧ laidMetH Tryd.prog Rows.fnExactGoalOkRow.laid w) ∧ sizedMet enc Tryd.prog Tryd.f7 (OpenSpec.ofChange Rows.fnExactGoalOkSpec) false w args)
      (Rows.fnExactGoalOkSpec.post enc Tryd.prog Tryd.f7 false true false false) := by
  refine returnsInHanded_of_change_and (C := Tryd.checked) (X := fun w _ => laidMetH Tryd.prog Rows.fnExactGoalOkRow.laid w) (fun _ _ _ hh h => h.of_heap hh) own started (by kernel_rfl) Tryd.func7
    (ChangeSpec.witness_shaped (enc := enc) (C := Tryd.checked) (os := os) (X := fun w _ => laidMetH Tryd.prog Rows.fnExactGoalOkRow.laid w) false (World.laidAll Tryd.prog os Rows.fnExactGoalOkRow.laid) #[.agg #[.int .i64 0, .slice none 0 0, .slice none 0 0, .slice none 0 0]] 8 (World.laidAll_os _ _ _)
      (World.shaped_of_ZipB (by kernel_rfl) (by kernel_rfl)) (by kernel_rfl) (by kernel_rfl) (by kernel_rfl)
      (by rw [MakeChecks.laidMetH_plain _ _ _ (by kernel_rfl)]; exact laidMet_laidAll _ (by kernel_rfl) (by kernel_rfl))) ?_
  intro W base args ds gs before hval0 hW hcnd hsz0 hL hshaped
  have hsz : (DataW.weightsEach Tryd.prog (Tryd.f7.params.toList ++ Rows.fnExactGoalOkSpec.plain.varTypes Tryd.prog) (ds ++ gs)).all (· ≤ reachBytes) = true := hsz0
  have hval : ∀ (j : Nat) t v, Tryd.f7.params[j]? = some t → args[j]? = some v → Value.okWide Tryd.prog W .any base t v := hval0
  have hW' := hW
  obtain ⟨p, q, hA0, hV, rfl, hfz, hnd⟩ := hW
  have hA : DataW.TrodAll enc Tryd.prog W 0 (fun _ => true) true Tryd.f7.params.toList args.toList ds p := hA0
  rw [Tryd.params7] at hA hval hsz
  obtain ⟨v0, vs0, d0, ds0, p0, q0, hargs, rfl, rfl, h0, r0⟩ := trodAll_cons hA
  obtain ⟨rfl, rfl, rfl⟩ := trodAll_nil r0
  obtain rfl : args = #[v0] := by cases args; simp_all
  obtain ⟨rfl, rfl⟩ := trodVars_none hV
  obtain ⟨cs0, rfl, _⟩ := okWide_struct Tryd.underlying42 (hval 0 42 v0 rfl rfl)
  have k0 := h0
  have lt0 : ∀ x ∈ p0, x.block < W.heap.size := by obtain ⟨m, hm⟩ := k0; exact DataW.trod_lt m _ _ _ hm
  obtain ⟨x0, hK0, hok0⟩ := of_arg_st opens42 h0
  obtain ⟨A0_1, c0_1, A0_2, c0_2, A0_3, c0_3, e0, l0_1, g0_1, l0_2, g0_2, l0_3, g0_3⟩ := k42_open hK0
  obtain rfl : cs0 = #[.int .i64 x0.f0, .slice A0_1 x0.f1.length c0_1, .slice A0_2 x0.f2.length c0_2, .slice A0_3 x0.f3.length c0_3] := Array.ext' e0
  clear hA0 hval0 hsz0 hsz
  obtain ⟨k, hk⟩ := Pu.FnExactGoalOk x0 hok0
  refine (laws_FnExactGoalOk.calls k x0.f0 _ _ x0.f1 _ _ x0.f2 _ _ x0.f3 true W g0_1 l0_1 g0_2 l0_2 g0_3 l0_3 hk).mono fun e W' ⟨he, bel⟩ => ?_
  subst he
  exact ⟨_, rfl, _, _, _, [], _, [], hW', trodAll_mk1 (shut_bool Tryd.underlying4 _), (trodAll_cons_mk (Below.trod laidOut (by kernel_rfl) (of_decide_eq_true (by kernel_rfl)) k0 bel lt0) trodAll_mk0), rfl, bel.frame _, fun h => by cases h⟩
theorem jf0 : (Rows.fnExactGoalOkRow.wf (OpenSpec.ofChange Rows.fnExactGoalOkSpec)) = true := by kernel_rfl
theorem jf1 : (laidOutB Tryd.prog) = true := by kernel_rfl
theorem jf2 : (mapsRowed Tryd.prog) = true := by kernel_rfl
theorem jf3 : (Tryd.f7.params.all (Tryd.prog.readableRec ·)) = true := by kernel_rfl
theorem jf4 : (namedTie Tryd.prog Rows.fnExactGoalOkRow.named Rows.fnExactGoalOkSpec.vars) = true := by kernel_rfl
theorem jf5 : ((Rows.fnExactGoalOkRow.stops == [])) = true := by kernel_rfl
theorem jf6 : ((Tryd.prog.stops == [])) = true := by kernel_rfl
theorem jf7 : ((Rows.fnExactGoalOkRow.knobs == [])) = true := by kernel_rfl
theorem jf8 : ((Tryd.prog.stopKnobs == [])) = true := by kernel_rfl
theorem jf9 : ((Rows.fnExactGoalOkRow.inPlace == Tryd.prog.inPlace 7)) = true := by kernel_rfl
theorem jf10 : ((Rows.fnExactGoalOkRow.unfollowed == Tryd.prog.unfollowed 7)) = true := by kernel_rfl
theorem jf11 : ((Rows.fnExactGoalOkRow.recurses == Tryd.prog.recurses 7)) = true := by kernel_rfl
theorem jf12 : ((Rows.fnExactGoalOkRow.named == Tryd.prog.varsNamed 7)) = true := by kernel_rfl
theorem jf13 : ((Rows.fnExactGoalOkRow.maps == (Tryd.f7.params.toList ++ Rows.fnExactGoalOkSpec.plain.varTypes Tryd.prog).any (Tryd.prog.mapsRec ·))) = true := by kernel_rfl
theorem jf14 : ((Rows.fnExactGoalOkRow.ifaces == (Tryd.f7.params.toList ++ Rows.fnExactGoalOkSpec.plain.varTypes Tryd.prog).any (Tryd.prog.ifacesRec ·))) = true := by kernel_rfl
theorem jf15 : ((Rows.fnExactGoalOkRow.mapsOut == Tryd.prog.mapsAmong Tryd.f7.resultTypes.toList)) = true := by kernel_rfl
theorem jf16 : ((Rows.fnExactGoalOkRow.loops == (Tryd.f7.params.toList ++ Rows.fnExactGoalOkSpec.plain.varTypes Tryd.prog).any (Tryd.prog.loopsFrom ·))) = true := by kernel_rfl
theorem jf17 : ((Rows.fnExactGoalOkRow.wideKeys == (Tryd.f7.params.toList ++ Rows.fnExactGoalOkSpec.plain.varTypes Tryd.prog ++ Tryd.f7.resultTypes.toList).any (Tryd.prog.wideKeysFrom ·))) = true := by kernel_rfl
theorem jf18 : (Rows.fnExactGoalOkSpec.vars.all (Tryd.prog.varReadable ·)) = true := by kernel_rfl
theorem jf19 : (Tryd.f7.resultTypes.all (fun t => Tryd.prog.readableRec t && decide (t < Tryd.prog.types.size))) = true := by kernel_rfl
theorem jf20 : ((Rows.fnExactGoalOkRow.ifacesOut == Tryd.f7.resultTypes.toList.any (Tryd.prog.ifacesRec ·))) = true := by kernel_rfl
theorem jf21 : ((Rows.fnExactGoalOkRow.loopsOut == Tryd.f7.resultTypes.toList.any (Tryd.prog.loopsFrom ·))) = true := by kernel_rfl
theorem jf22 : ((Rows.fnExactGoalOkRow.plainKeys == Tryd.prog.plainKeys)) = true := by kernel_rfl
theorem jf23 : (Rows.fnExactGoalOkRow.shortTexts.isNone) = true := by kernel_rfl
theorem jf24 : (Tryd.prog.stopsHeard) = true := by kernel_rfl
theorem jf25 : (Tryd.prog.mayEnter) = true := by kernel_rfl
theorem jf26 : ((Rows.fnExactGoalOkRow.lifted == Tryd.prog.liftsFinal)) = true := by kernel_rfl
theorem jf27 : ((Tryd.prog.make == some Rows.fnExactGoalOkRow.make)) = true := by kernel_rfl
theorem jf28 : ((Rows.fnExactGoalOkRow.kinds == (if Rows.fnExactGoalOkRow.domain.isEmpty then [] else Tryd.f7.params.toList.map fun t => match Tryd.prog.underlying t with | some (.int k) => some k | _ => none))) = true := by kernel_rfl
theorem jf29 : ((Rows.fnExactGoalOkRow.pinned == Rows.fnExactGoalOkRow.pinnedBy)) = true := by kernel_rfl
theorem jf30 : ((Rows.fnExactGoalOkRow.veiled == (Tryd.f7.params.toList ++ Rows.fnExactGoalOkSpec.plain.varTypes Tryd.prog ++ Tryd.f7.resultTypes.toList).any (Tryd.prog.veiledRec ·))) = true := by kernel_rfl
theorem jf31 : (Rows.fnExactGoalOkRow.veiledFits Tryd.prog Tryd.f7.params.toList (Tryd.f7.params.toList ++ Rows.fnExactGoalOkSpec.plain.varTypes Tryd.prog ++ Tryd.f7.resultTypes.toList)) = true := by kernel_rfl
theorem an {a b : Bool} (h : a = true) (k : b = true) : (a && b) = true := by rw [h, k]; rfl
set_option maxRecDepth 100000 in
theorem closed : joinedFacts Tryd.prog 7 Tryd.f7 Rows.fnExactGoalOkSpec Rows.fnExactGoalOkRow = true := (an (an (an (an (an (an (an (an (an (an (an (an (an (an (an (an (an (an (an (an (an (an (an (an (an (an (an (an (an (an (an jf0 jf1) jf2) jf3) jf4) jf5) jf6) jf7) jf8) jf9) jf10) jf11) jf12) jf13) jf14) jf15) jf16) jf17) jf18) jf19) jf20) jf21) jf22) jf23) jf24) jf25) jf26) jf27) jf28) jf29) jf30) jf31)
theorem named_ : Tryd.prog.funcNamed "loop.example/catechist/laws.FnExactGoalOk" = some 7 := by kernel_rfl
theorem inst_ : Tryd.f7.isInstance Tryd.prog Rows.fnExactGoalOkRow.origin Rows.fnExactGoalOkRow.targs := of_decide_eq_true (by kernel_rfl)
theorem wrap_ : Tryd.f7.isWrapper Tryd.prog Rows.fnExactGoalOkRow.wrapper Rows.fnExactGoalOkRow.mainSum := by unfold Func.isWrapper; first | (rw [if_pos (by decide +kernel)]; kernel_rfl) | (rw [if_neg (by decide +kernel)]; exact ⟨rfl, rfl⟩)
theorem over : Rows.fnExactGoalOkRow.holds Tryd.pinned (OpenSpec.ofChange Rows.fnExactGoalOkSpec) :=
  OpenClaim.holds_of_wide 7 Tryd.f7 rfl rfl rfl rfl rfl rfl rfl ⟨rfl, rfl, rfl, rfl, rfl⟩ rfl rfl rfl rfl rfl named_ Tryd.func7 closed inst_ wrap_
    (fun os started H enc _ => lifted os started H enc)
theorem wfb_ : Rows.fnExactGoalOkRow.wfByText (OpenSpec.ofChange Rows.fnExactGoalOkSpec) = true := by kernel_rfl
theorem main_ : Tryd.prog.mainIs = some (true, "a501c2ab492a422e7f50fa6eccaeb63a40faa7a86304c4b639f412465e0333ec".toList) := by kernel_rfl
theorem looks_ : false = Tryd.prog.looks [] := by kernel_rfl
theorem stand_ : ([42].all fun u => !Tryd.prog.wantsStandIn u) = true := by kernel_rfl
theorem goes_ : false = Rows.fnExactGoalOkRow.goesBy Tryd.prog := by kernel_rfl
theorem card : Rows.FnExactGoalOkCardSaid :=
  Claim7.holds_tied_plain_at .later [] [.data, .pinned] true (true, "a501c2ab492a422e7f50fa6eccaeb63a40faa7a86304c4b639f412465e0333ec") false over (fun _ h => by cases h) wfb_ (fun _ h => by cases h) fnExactGoalOk_row_tie rfl ⟨rfl, rfl⟩ main_ rfl
    (fun f fn hf hfn => by
      obtain rfl : f = 7 := Option.some.inj (named_.symm.trans hf) |>.symm
      obtain rfl : fn = Tryd.f7 := (Option.some.inj (Tryd.func7.symm.trans hfn)).symm
      exact ⟨looks_, fun j t ht => by
        rw [Tryd.params7] at ht
        have hm : t ∈ [42] := by simpa using Array.mem_of_getElem? ht
        exact (show Tryd.prog.wantsStandIn t = false by simpa using List.all_eq_true.1 stand_ t hm)⟩)
    goes_
end Go.Proofs.YtlmeookaanjdiaaDoor.RowFnExactGoalOk
namespace Go.Proofs.YtlmeookaanjdiaaDoor
/-- The row of FnExactGoalOk. -/
theorem fnExactGoalOk_holds : Rows.FnExactGoalOkCardSaid := RowFnExactGoalOk.card
#print axioms fnExactGoalOk_holds
end Go.Proofs.YtlmeookaanjdiaaDoor
