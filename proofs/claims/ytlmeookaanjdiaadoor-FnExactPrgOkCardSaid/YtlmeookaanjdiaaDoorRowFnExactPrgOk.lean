/- THE ROW of FnExactPrgOk: for every input the law returns true and its arguments read as they did; out of the pure statement Pu.FnExactPrgOk and the contract of the call. Conditions: none beyond the row's own. -/
import Derived.Test.YtlmeookaanjdiaaDoorRows
import Derived.Test.YtlmeookaanjdiaaDoorTie
import Derived.Test.YtlmeookaanjdiaaDoorCards
import Derived.Test.YtlmeookaanjdiaaDoorP22
import Derived.Test.YtlmeookaanjdiaaDoorPuFnExactPrgOk
import Derived.Test.YtlmeookaanjdiaaDoorMOpen
import Derived.WalkKit
import Derived.ProofKit
import Derived.OpenShut
import Derived.ShutString
import Derived.ChangeOld
import Derived.Below
import Derived.SizedLaws
import Derived.LaidMore
import Derived.Lay
import Derived.SevenTiedAt
import Derived.Stop.Joined
namespace Go.Proofs.YtlmeookaanjdiaaDoor.RowFnExactPrgOk
open Go.ChangeShapes Go.WideShapes Go.ChangeAt Go.RowKit Go.Proofs.YtlmeookaanjdiaaDoor.Opn Go.Proofs.YtlmeookaanjdiaaDoor.P Go.Proofs.YtlmeookaanjdiaaDoorW.PrintWords
open Go.ChangeMaps (open_string shut_string)
set_option linter.unusedVariables false
set_option linter.unusedSimpArgs false
abbrev S68 := Go.Proofs.YtlmeookaanjdiaaDoor.Cat.Prog
def k68 : Kd S68 := Kd.iso (Kd.pair (Kd.slice 126 k126) (Kd.slice 128 k128)) (fun x : S68 => (x.f0, x.f1))
theorem k68_open {w : World} {x : S68} {cs : List Value} (h : k68.K w x cs) : ∃ A0 c0 A1 c1, cs = [.slice A0 x.f0.length c0, .slice A1 x.f1.length c1] ∧ x.f0.length ≤ c0 ∧ k126.C w A0 x.f0.length x.f0 ∧ x.f1.length ≤ c1 ∧ k128.C w A1 x.f1.length x.f1 := by
  obtain ⟨a0, b0, rfl, ⟨A0, c0, rfl, l0, g0⟩, ⟨A1, c1, rfl, l1, g1⟩⟩ := h
  exact ⟨A0, c0, A1, c1, rfl, l0, g0, l1, g1⟩
def ok81 (x : S81) : Prop := ((Lit.int .i64 x.f0).wf = true) ∧ ((Lit.int .i64 x.f1).wf = true) ∧ (x.f2.size ≤ maxLen)
theorem opens81 : Opens Tryd.prog 81 k81 (ok81) := opens_struct (f := fun (x : S81) => (x.f0, x.f1, x.f2)) (fun v => (⟨v.1, v.2.1, v.2.2⟩ : S81)) (fun _ => rfl) Tryd.underlying81 (by kernel_rfl) (opensF_cons rfl (by kernel_rfl) (opens_int Tryd.underlying3) (opensF_cons rfl (by kernel_rfl) (opens_int Tryd.underlying3) (opensF_one rfl (by kernel_rfl) (opens_string Tryd.underlying9))))
def ok42 (x : S42) : Prop := ((Lit.int .i64 x.f0).wf = true) ∧ ((x.f1).length ≤ maxLen ∧ ∀ yf1 ∈ x.f1, ok81 yf1) ∧ ((x.f2).length ≤ maxLen ∧ ∀ yf2 ∈ x.f2, ok81 yf2) ∧ ((x.f3).length ≤ maxLen ∧ ∀ yf3 ∈ x.f3, ok81 yf3)
theorem opens42 : Opens Tryd.prog 42 k42 (ok42) := opens_struct (f := fun (x : S42) => (x.f0, x.f1, x.f2, x.f3)) (fun v => (⟨v.1, v.2.1, v.2.2.1, v.2.2.2⟩ : S42)) (fun _ => rfl) Tryd.underlying42 (by kernel_rfl) (opensF_cons rfl (by kernel_rfl) (opens_int Tryd.underlying3) (opensF_cons rfl (by kernel_rfl) (opens_slice (e' := 81) Tryd.underlying22 (by kernel_rfl) opens81) (opensF_cons rfl (by kernel_rfl) (opens_slice (e' := 81) Tryd.underlying22 (by kernel_rfl) opens81) (opensF_one rfl (by kernel_rfl) (opens_slice (e' := 81) Tryd.underlying22 (by kernel_rfl) opens81)))))
def ok126 (x : S126) : Prop := ((x.f0).length ≤ maxLen ∧ ∀ yf0 ∈ x.f0, ok81 yf0) ∧ ((x.f1).length ≤ maxLen ∧ ∀ yf1 ∈ x.f1, ok42 yf1)
theorem opens126 : Opens Tryd.prog 126 k126 (ok126) := opens_struct (f := fun (x : S126) => (x.f0, x.f1)) (fun v => (⟨v.1, v.2⟩ : S126)) (fun _ => rfl) Tryd.underlying126 (by kernel_rfl) (opensF_cons rfl (by kernel_rfl) (opens_slice (e' := 81) Tryd.underlying22 (by kernel_rfl) opens81) (opensF_one rfl (by kernel_rfl) (opens_slice (e' := 42) Tryd.underlying124 (by kernel_rfl) opens42)))
def ok128 (x : S128) : Prop := (x.f0.size ≤ maxLen) ∧ ((Lit.int .i64 x.f1).wf = true) ∧ ((Lit.int .i64 x.f2).wf = true)
theorem opens128 : Opens Tryd.prog 128 k128 (ok128) := opens_struct (f := fun (x : S128) => (x.f0, x.f1, x.f2)) (fun v => (⟨v.1, v.2.1, v.2.2⟩ : S128)) (fun _ => rfl) Tryd.underlying128 (by kernel_rfl) (opensF_cons rfl (by kernel_rfl) (opens_string Tryd.underlying9) (opensF_cons rfl (by kernel_rfl) (opens_int Tryd.underlying3) (opensF_one rfl (by kernel_rfl) (opens_int Tryd.underlying3))))
def ok68 (x : S68) : Prop := ((x.f0).length ≤ maxLen ∧ ∀ yf0 ∈ x.f0, ok126 yf0) ∧ ((x.f1).length ≤ maxLen ∧ ∀ yf1 ∈ x.f1, ok128 yf1)
theorem opens68 : Opens Tryd.prog 68 k68 (ok68) := opens_struct (f := fun (x : S68) => (x.f0, x.f1)) (fun v => (⟨v.1, v.2⟩ : S68)) (fun _ => rfl) Tryd.underlying68 (by kernel_rfl) (opensF_cons rfl (by kernel_rfl) (opens_slice (e' := 126) Tryd.underlying65 (by kernel_rfl) opens126) (opensF_one rfl (by kernel_rfl) (opens_slice (e' := 128) Tryd.underlying66 (by kernel_rfl) opens128)))
theorem own : ownKnob Tryd.prog.godebug = none := by kernel_rfl
theorem laidOut : laidOutB Tryd.prog = true := by kernel_rfl
set_option maxRecDepth 100000 in
theorem lifted (os : Os) (started : os.Started) (H : Type) (enc : TypeId × Value → H) :
    ReturnsInHanded {} Tryd.checked os 17 .any (fun w args => (Rows.fnExactPrgOkSpec.pre enc Tryd.prog Tryd.f17 Rows.fnExactPrgOkRow.domain false w args ∧ laidMetH Tryd.prog Rows.fnExactPrgOkRow.laid w) ∧ sizedMet enc Tryd.prog Tryd.f17 (OpenSpec.ofChange Rows.fnExactPrgOkSpec) false w args)
      (Rows.fnExactPrgOkSpec.post enc Tryd.prog Tryd.f17 false true false false) := by
  refine returnsInHanded_of_change_and (C := Tryd.checked) (X := fun w _ => laidMetH Tryd.prog Rows.fnExactPrgOkRow.laid w) (fun _ _ _ hh h => h.of_heap hh) own started (by kernel_rfl) Tryd.func17
    (ChangeSpec.witness_shaped (enc := enc) (C := Tryd.checked) (os := os) (X := fun w _ => laidMetH Tryd.prog Rows.fnExactPrgOkRow.laid w) false (World.laidAll Tryd.prog os Rows.fnExactPrgOkRow.laid) #[.agg #[.slice none 0 0, .slice none 0 0]] 8 (World.laidAll_os _ _ _)
      (World.shaped_of_ZipB (by kernel_rfl) (by kernel_rfl)) (by kernel_rfl) (by kernel_rfl) (by kernel_rfl)
      (by rw [MakeChecks.laidMetH_plain _ _ _ (by kernel_rfl)]; exact laidMet_laidAll _ (by kernel_rfl) (by kernel_rfl))) ?_
  intro W base args ds gs before hval0 hW hcnd hsz0 hL hshaped
  have hsz : (DataW.weightsEach Tryd.prog (Tryd.f17.params.toList ++ Rows.fnExactPrgOkSpec.plain.varTypes Tryd.prog) (ds ++ gs)).all (· ≤ reachBytes) = true := hsz0
  have hval : ∀ (j : Nat) t v, Tryd.f17.params[j]? = some t → args[j]? = some v → Value.okWide Tryd.prog W .any base t v := hval0
  have hW' := hW
  obtain ⟨p, q, hA0, hV, rfl, hfz, hnd⟩ := hW
  have hA : DataW.TrodAll enc Tryd.prog W 0 (fun _ => true) true Tryd.f17.params.toList args.toList ds p := hA0
  rw [Tryd.params17] at hA hval hsz
  obtain ⟨v0, vs0, d0, ds0, p0, q0, hargs, rfl, rfl, h0, r0⟩ := trodAll_cons hA
  obtain ⟨rfl, rfl, rfl⟩ := trodAll_nil r0
  obtain rfl : args = #[v0] := by cases args; simp_all
  obtain ⟨rfl, rfl⟩ := trodVars_none hV
  obtain ⟨cs0, rfl, _⟩ := okWide_struct Tryd.underlying68 (hval 0 68 v0 rfl rfl)
  have k0 := h0
  have lt0 : ∀ x ∈ p0, x.block < W.heap.size := by obtain ⟨m, hm⟩ := k0; exact DataW.trod_lt m _ _ _ hm
  obtain ⟨x0, hK0, hok0⟩ := of_arg_st opens68 h0
  obtain ⟨A0_0, c0_0, A0_1, c0_1, e0, l0_0, g0_0, l0_1, g0_1⟩ := k68_open hK0
  obtain rfl : cs0 = #[.slice A0_0 x0.f0.length c0_0, .slice A0_1 x0.f1.length c0_1] := Array.ext' e0
  clear hA0 hval0 hsz0 hsz
  obtain ⟨k, hk⟩ := Pu.FnExactPrgOk x0 hok0
  refine (laws_FnExactPrgOk.calls k _ _ x0.f0 _ _ x0.f1 true W g0_0 l0_0 g0_1 l0_1 hk).mono fun e W' ⟨he, bel⟩ => ?_
  subst he
  exact ⟨_, rfl, _, _, _, [], _, [], hW', trodAll_mk1 (shut_bool Tryd.underlying4 _), (trodAll_cons_mk (Below.trod laidOut (by kernel_rfl) (of_decide_eq_true (by kernel_rfl)) k0 bel lt0) trodAll_mk0), rfl, bel.frame _, fun h => by cases h⟩
theorem jf0 : (Rows.fnExactPrgOkRow.wf (OpenSpec.ofChange Rows.fnExactPrgOkSpec)) = true := by kernel_rfl
theorem jf1 : (laidOutB Tryd.prog) = true := by kernel_rfl
theorem jf2 : (mapsRowed Tryd.prog) = true := by kernel_rfl
theorem jf3 : (Tryd.f17.params.all (Tryd.prog.readableRec ·)) = true := by kernel_rfl
theorem jf4 : (namedTie Tryd.prog Rows.fnExactPrgOkRow.named Rows.fnExactPrgOkSpec.vars) = true := by kernel_rfl
theorem jf5 : ((Rows.fnExactPrgOkRow.stops == [])) = true := by kernel_rfl
theorem jf6 : ((Tryd.prog.stops == [])) = true := by kernel_rfl
theorem jf7 : ((Rows.fnExactPrgOkRow.knobs == [])) = true := by kernel_rfl
theorem jf8 : ((Tryd.prog.stopKnobs == [])) = true := by kernel_rfl
theorem jf9 : ((Rows.fnExactPrgOkRow.inPlace == Tryd.prog.inPlace 17)) = true := by kernel_rfl
theorem jf10 : ((Rows.fnExactPrgOkRow.unfollowed == Tryd.prog.unfollowed 17)) = true := by kernel_rfl
theorem jf11 : ((Rows.fnExactPrgOkRow.recurses == Tryd.prog.recurses 17)) = true := by kernel_rfl
theorem jf12 : ((Rows.fnExactPrgOkRow.named == Tryd.prog.varsNamed 17)) = true := by kernel_rfl
theorem jf13 : ((Rows.fnExactPrgOkRow.maps == (Tryd.f17.params.toList ++ Rows.fnExactPrgOkSpec.plain.varTypes Tryd.prog).any (Tryd.prog.mapsRec ·))) = true := by kernel_rfl
theorem jf14 : ((Rows.fnExactPrgOkRow.ifaces == (Tryd.f17.params.toList ++ Rows.fnExactPrgOkSpec.plain.varTypes Tryd.prog).any (Tryd.prog.ifacesRec ·))) = true := by kernel_rfl
theorem jf15 : ((Rows.fnExactPrgOkRow.mapsOut == Tryd.prog.mapsAmong Tryd.f17.resultTypes.toList)) = true := by kernel_rfl
theorem jf16 : ((Rows.fnExactPrgOkRow.loops == (Tryd.f17.params.toList ++ Rows.fnExactPrgOkSpec.plain.varTypes Tryd.prog).any (Tryd.prog.loopsFrom ·))) = true := by kernel_rfl
theorem jf17 : ((Rows.fnExactPrgOkRow.wideKeys == (Tryd.f17.params.toList ++ Rows.fnExactPrgOkSpec.plain.varTypes Tryd.prog ++ Tryd.f17.resultTypes.toList).any (Tryd.prog.wideKeysFrom ·))) = true := by kernel_rfl
theorem jf18 : (Rows.fnExactPrgOkSpec.vars.all (Tryd.prog.varReadable ·)) = true := by kernel_rfl
theorem jf19 : (Tryd.f17.resultTypes.all (fun t => Tryd.prog.readableRec t && decide (t < Tryd.prog.types.size))) = true := by kernel_rfl
theorem jf20 : ((Rows.fnExactPrgOkRow.ifacesOut == Tryd.f17.resultTypes.toList.any (Tryd.prog.ifacesRec ·))) = true := by kernel_rfl
theorem jf21 : ((Rows.fnExactPrgOkRow.loopsOut == Tryd.f17.resultTypes.toList.any (Tryd.prog.loopsFrom ·))) = true := by kernel_rfl
theorem jf22 : ((Rows.fnExactPrgOkRow.plainKeys == Tryd.prog.plainKeys)) = true := by kernel_rfl
theorem jf23 : (Rows.fnExactPrgOkRow.shortTexts.isNone) = true := by kernel_rfl
theorem jf24 : (Tryd.prog.stopsHeard) = true := by kernel_rfl
theorem jf25 : (Tryd.prog.mayEnter) = true := by kernel_rfl
theorem jf26 : ((Rows.fnExactPrgOkRow.lifted == Tryd.prog.liftsFinal)) = true := by kernel_rfl
theorem jf27 : ((Tryd.prog.make == some Rows.fnExactPrgOkRow.make)) = true := by kernel_rfl
theorem jf28 : ((Rows.fnExactPrgOkRow.kinds == (if Rows.fnExactPrgOkRow.domain.isEmpty then [] else Tryd.f17.params.toList.map fun t => match Tryd.prog.underlying t with | some (.int k) => some k | _ => none))) = true := by kernel_rfl
theorem jf29 : ((Rows.fnExactPrgOkRow.pinned == Rows.fnExactPrgOkRow.pinnedBy)) = true := by kernel_rfl
theorem jf30 : ((Rows.fnExactPrgOkRow.veiled == (Tryd.f17.params.toList ++ Rows.fnExactPrgOkSpec.plain.varTypes Tryd.prog ++ Tryd.f17.resultTypes.toList).any (Tryd.prog.veiledRec ·))) = true := by kernel_rfl
theorem jf31 : (Rows.fnExactPrgOkRow.veiledFits Tryd.prog Tryd.f17.params.toList (Tryd.f17.params.toList ++ Rows.fnExactPrgOkSpec.plain.varTypes Tryd.prog ++ Tryd.f17.resultTypes.toList)) = true := by kernel_rfl
theorem an {a b : Bool} (h : a = true) (k : b = true) : (a && b) = true := by rw [h, k]; rfl
set_option maxRecDepth 100000 in
theorem closed : joinedFacts Tryd.prog 17 Tryd.f17 Rows.fnExactPrgOkSpec Rows.fnExactPrgOkRow = true := (an (an (an (an (an (an (an (an (an (an (an (an (an (an (an (an (an (an (an (an (an (an (an (an (an (an (an (an (an (an (an jf0 jf1) jf2) jf3) jf4) jf5) jf6) jf7) jf8) jf9) jf10) jf11) jf12) jf13) jf14) jf15) jf16) jf17) jf18) jf19) jf20) jf21) jf22) jf23) jf24) jf25) jf26) jf27) jf28) jf29) jf30) jf31)
theorem named_ : Tryd.prog.funcNamed "loop.example/catechist/laws.FnExactPrgOk" = some 17 := by kernel_rfl
theorem inst_ : Tryd.f17.isInstance Tryd.prog Rows.fnExactPrgOkRow.origin Rows.fnExactPrgOkRow.targs := of_decide_eq_true (by kernel_rfl)
theorem wrap_ : Tryd.f17.isWrapper Tryd.prog Rows.fnExactPrgOkRow.wrapper Rows.fnExactPrgOkRow.mainSum := by unfold Func.isWrapper; first | (rw [if_pos (by decide +kernel)]; kernel_rfl) | (rw [if_neg (by decide +kernel)]; exact ⟨rfl, rfl⟩)
theorem over : Rows.fnExactPrgOkRow.holds Tryd.pinned (OpenSpec.ofChange Rows.fnExactPrgOkSpec) :=
  OpenClaim.holds_of_wide 17 Tryd.f17 rfl rfl rfl rfl rfl rfl rfl ⟨rfl, rfl, rfl, rfl, rfl⟩ rfl rfl rfl rfl rfl named_ Tryd.func17 closed inst_ wrap_
    (fun os started H enc _ => lifted os started H enc)
theorem wfb_ : Rows.fnExactPrgOkRow.wfByText (OpenSpec.ofChange Rows.fnExactPrgOkSpec) = true := by kernel_rfl
theorem main_ : Tryd.prog.mainIs = some (true, "a501c2ab492a422e7f50fa6eccaeb63a40faa7a86304c4b639f412465e0333ec".toList) := by kernel_rfl
theorem looks_ : false = Tryd.prog.looks [] := by kernel_rfl
theorem stand_ : ([68].all fun u => !Tryd.prog.wantsStandIn u) = true := by kernel_rfl
theorem goes_ : false = Rows.fnExactPrgOkRow.goesBy Tryd.prog := by kernel_rfl
theorem card : Rows.FnExactPrgOkCardSaid :=
  Claim7.holds_tied_plain_at .later [] [.data, .pinned] true (true, "a501c2ab492a422e7f50fa6eccaeb63a40faa7a86304c4b639f412465e0333ec") false over (fun _ h => by cases h) wfb_ (fun _ h => by cases h) fnExactPrgOk_row_tie rfl ⟨rfl, rfl⟩ main_ rfl
    (fun f fn hf hfn => by
      obtain rfl : f = 17 := Option.some.inj (named_.symm.trans hf) |>.symm
      obtain rfl : fn = Tryd.f17 := (Option.some.inj (Tryd.func17.symm.trans hfn)).symm
      exact ⟨looks_, fun j t ht => by
        rw [Tryd.params17] at ht
        have hm : t ∈ [68] := by simpa using Array.mem_of_getElem? ht
        exact (show Tryd.prog.wantsStandIn t = false by simpa using List.all_eq_true.1 stand_ t hm)⟩)
    goes_
end Go.Proofs.YtlmeookaanjdiaaDoor.RowFnExactPrgOk
namespace Go.Proofs.YtlmeookaanjdiaaDoor
/-- The row of FnExactPrgOk. -/
theorem fnExactPrgOk_holds : Rows.FnExactPrgOkCardSaid := RowFnExactPrgOk.card
#print axioms fnExactPrgOk_holds
end Go.Proofs.YtlmeookaanjdiaaDoor
