/- Contracts of functions of the program: each as a Lean function, and that its call does what that says; printed by cprint.py (this session) over print.py of the kit. Conditions: the hypotheses of each theorem. -/
import Derived.Test.YtibencknfheplaaDoorVZ
import Derived.Test.YtibencknfheplaaDoorP0
import Derived.Test.YtibencknfheplaaDoorP3
import Derived.Test.YtibencknfheplaaDoorP4
import Derived.Test.YtibencknfheplaaDoorP9
import Derived.Test.YtibencknfheplaaDoorP10
import Derived.Test.YtibencknfheplaaDoorP11
namespace Go.Proofs.YtibencknfheplaaDoor.P
open Go.RowKit Go.Proofs.YtibencknfheplaaDoorW.PrintWords Go.Proofs.YtibencknfheplaaDoorW.PrintLast Go.Proofs.YtibencknfheplaaDoorW.PrintMore
attribute [local go_sem] max2_int min2_int max_two min_two max_three min_three max_four min_four   -- for this text's walks alone
set_option linter.unusedVariables false
set_option linter.unusedSimpArgs false

/-! ### laws_FnExactTrmRead: function 5 -/
mutual
def laws_FnExactTrmRead.j0:Nat→ByteArray→List (S34)→Bool→List (S34)→Bool→Option (Bool)
 | 0,_,_,_,_,_=>none
 | k+1,x0,x3,x4,x5,x32=>if x32=true then (some false) else ((laws_markTrmCellS.f k x5 1).bind fun bt236=>((laws_heldTrmCellS.f k bt236.2 1).bind fun t238=>(if t238<0 then (some false) else (if t238=bt236.1 then ((impl_TrmRead.f k x0).bind fun bt239=>((laws_eqTrmCellS.f k bt239.1 x3).bind fun t243=>(if t243=true then (laws_FnExactTrmRead.j1 k bt236.2 bt236.1 (bt239.2 != x4)) else (laws_FnExactTrmRead.j1 k bt236.2 bt236.1 true)))) else (some false)))))
def laws_FnExactTrmRead.j1:Nat→List (S34)→Int→Bool→Option (Bool)
 | 0,_,_,_=>none
 | k+1,x5,x7,x57=>if x57=true then (some false) else ((laws_heldTrmCellS.f k x5 1).bind fun t244=>(if t244<0 then (some false) else (if t244=x7 then (some true) else (some false))))
end
def laws_FnExactTrmRead.f (k:Nat) (a0:ByteArray):Option (Bool):=if (a0.size:Int) > 1048576 then (some true) else ((spec_TrmRead.f k a0).bind fun bt227=>((impl_TrmRead.f k a0).bind fun bt231=>((laws_eqTrmCellS.f k bt231.1 bt227.1).bind fun t235=>(if t235=true then (laws_FnExactTrmRead.j0 k a0 bt227.1 bt227.2 bt231.1 (bt231.2 != bt227.2)) else (laws_FnExactTrmRead.j0 k a0 bt227.1 bt227.2 bt231.1 true)))))
set_option maxHeartbeats 8000000 in
set_option maxRecDepth 100000 in
theorem laws_FnExactTrmRead.calls (k:Nat) (a0:ByteArray) (r:Bool) (w:World) (hE_:ErrT w) (hT_:TabT w) (h:laws_FnExactTrmRead.f k a0=some r) :
  Calls Tryd.prog 5 #[.string a0] w fun e w'=>e = .returned (.bool r)∧Below w.heap.size w w':=by
 have HE_:=Aside0.mk hE_
 clear hE_
 have HT_:=Aside0.mk hT_
 clear hT_
 have HB:=Aside0.mk (Below.refl w.heap.size w)
 have H:(if (a0.size:Int) > 1048576 then (some true) else ((spec_TrmRead.f k a0).bind fun bt227=>((impl_TrmRead.f k a0).bind fun bt231=>((laws_eqTrmCellS.f k bt231.1 bt227.1).bind fun t235=>(if t235=true then (laws_FnExactTrmRead.j0 k a0 bt227.1 bt227.2 bt231.1 (bt231.2 != bt227.2)) else (laws_FnExactTrmRead.j0 k a0 bt227.1 bt227.2 bt231.1 true))))))=some r:=h
 clear h
 by_cases c2:(a0.size:Int) > 1048576
 ·rw [if_pos c2] at H
  have c2b0:decide (1048576<(a0.size:Int))=true:=decide_eq_true c2
  have c2b1:decide (1048576<a0.size)=true:=decide_eq_true (by omega)
  clear c2
  obtain rfl:=Option.some.inj H
  go_enter Tryd.func5,Tryd.ntmps5
  go_wp2
  go_ret
  exact ⟨qz5,qz2⟩
 ·rw [if_neg c2] at H
  have c2b0:decide (1048576<(a0.size:Int))=false:=decide_eq_false c2
  have c2b1:decide (1048576<a0.size)=false:=decide_eq_false (by omega)
  clear c2
  replace H:=Option.bind_eq_some_iff.mp H
  obtain ⟨⟨t227,t228⟩,A30,H⟩:=H
  try dsimp only at H
  have A3:=Aside0.mk A30
  clear A30
  replace H:=Option.bind_eq_some_iff.mp H
  obtain ⟨⟨t231,t232⟩,A40,H⟩:=H
  try dsimp only at H
  have A4:=Aside0.mk A40
  clear A40
  have HC5:=Aside0.mk H
  clear H
  go_enter Tryd.func5,Tryd.ntmps5
  go_upto_region 5 with (first|((with_reducible refine gate_callee (f:=15) rfl ?_);refine goesL_ (some 16) rfl rfl Tryd.func15 (by kernel_rfl) rfl #[.string a0] rfl qz3 ?_;(with_reducible refine (spec_TrmRead.calls k a0 t227 t228 _ A3.out).mono ?_);rintro e w6 ⟨v229,rfl,ho0,hb⟩;refine ⟨_,rfl,?_⟩;have n0_:=Aside0.mk (Kd.R_lower ho0 (below_size qz1));have n1_:=Aside0.mk (below_step qz1 hb);clear HB;have HO230:=n0_;have HB:=n1_;clear n0_ n1_;(try clear hb);(try clear hb2);(try clear hk);(try clear hi);(try clear ho0))|((with_reducible refine gate_callee (f:=14) rfl ?_);refine goesL_ (some 21) rfl rfl Tryd.func14 (by kernel_rfl) rfl #[.string a0] rfl qz3 ?_;(with_reducible refine (impl_TrmRead.calls (hE_:=HE_.out.below qz1) (hT_:=HT_.out.below qz1) k a0 t231 t232 _ A4.out).mono ?_);rintro e w7 ⟨v233,rfl,ho0,hb⟩;refine ⟨_,rfl,?_⟩;have n0_:=Aside0.mk (Kd.R_elder' qz36 (Kd.R_base ho0) hb);have n1_:=Aside0.mk (Kd.R_lower (Kd.R_new' ho0 (Kd.R_lt qz36)) (below_size qz1));have n2_:=Aside0.mk (below_step qz1 hb);clear HO230 HB;have HO230:=n0_;have HO234:=n1_;have HB:=n2_;clear n0_ n1_ n2_;(try clear hb);(try clear hb2);(try clear hk);(try clear hi);(try clear ho0)))
  (try simp only [Act.put,List.setIfInBounds_toArray,List.set_cons_zero,List.set_cons_succ])
  go_cut [32] (fun v32 wc=>∃ (kq:Nat) (x32_4:Bool),v32 = .bool x32_4∧Aside0 (laws_FnExactTrmRead.j0 kq a0 t227 t228 t231 x32_4=some r)∧Aside0 (kq≤k)∧Aside0 (Kd.R k34 34 wc w.heap.size (fun k_=>some k_≠(v233:Value).ownBlock) v229 t227)∧Aside0 (Kd.R k34 34 wc w.heap.size (fun k_=>some k_≠(v229:Value).ownBlock) v233 t231)∧Aside0 (Below w.heap.size w wc))
  case first=>
   have H:=HC5.out
   clear HC5
   replace H:=Option.bind_eq_some_iff.mp H
   obtain ⟨t235,A80,H⟩:=H
   try dsimp only at H
   have A8:=Aside0.mk A80
   clear A80
   by_cases c9:t235=true
   ·subst c9
    have H1:(laws_FnExactTrmRead.j0 k a0 t227 t228 t231 (t232 != t228))=some r:=qz23
    clear H
    have H:=H1
    clear H1
    have H':=Aside0.mk H
    clear H
    obtain ⟨Ao10,co10,eo10⟩:=Kd.R_slice HO234.out
    subst eo10
    obtain ⟨Ao11,co11,eo11⟩:=Kd.R_slice HO230.out
    subst eo11
    go_wp2_with (first|((with_reducible refine gate_callee (f:=10) rfl ?_);refine goesL_ (some 26) rfl rfl Tryd.func10 (by kernel_rfl) rfl #[.slice Ao10 t231.length co10,.slice Ao11 t227.length co11] rfl qz3 ?_;(with_reducible refine (laws_eqTrmCellS.calls k _ _ t231 _ _ t227 true _ ?side1 ?side2 ?side3 ?side4 A8.out).mono ?_);(case side1=>exact qz44);(case side2=>exact (Kd.R_reads' HO234.out).2.1);(case side3=>exact qz45);(case side4=>exact (Kd.R_reads' HO230.out).2.1);rintro e w12 ⟨rfl,hb⟩;refine ⟨_,rfl,?_⟩;have n0_:=Aside0.mk (Kd.R_below qz36 hb);have n1_:=Aside0.mk (Kd.R_below (by (with_reducible repeat (first|apply Kd.R_alloc|apply Kd.R_drewN|apply Kd.R_drew));exact HO234.out) hb);have n2_:=Aside0.mk (below_step qz1 hb);clear HO230 HO234 HB;have HO230:=n0_;have HO234:=n1_;have HB:=n2_;clear n0_ n1_ n2_;(try clear hb);(try clear hb2);(try clear hk);(try clear hi)))
    go_meet
    case rel=>exact ⟨_,((t232 != t228)),qz6,H',⟨qz35⟩,⟨qz55⟩,⟨qz54⟩,⟨qz2⟩⟩
   ·replace c9:=Bool.eq_false_iff.mpr c9
    subst c9
    have H1:(laws_FnExactTrmRead.j0 k a0 t227 t228 t231 true)=some r:=qz14
    clear H
    have H:=H1
    clear H1
    have H':=Aside0.mk H
    clear H
    obtain ⟨Ao13,co13,eo13⟩:=Kd.R_slice HO234.out
    subst eo13
    obtain ⟨Ao14,co14,eo14⟩:=Kd.R_slice HO230.out
    subst eo14
    go_wp2_with (first|((with_reducible refine gate_callee (f:=10) rfl ?_);refine goesL_ (some 26) rfl rfl Tryd.func10 (by kernel_rfl) rfl #[.slice Ao13 t231.length co13,.slice Ao14 t227.length co14] rfl qz3 ?_;(with_reducible refine (laws_eqTrmCellS.calls k _ _ t231 _ _ t227 false _ ?side1 ?side2 ?side3 ?side4 A8.out).mono ?_);(case side1=>exact qz44);(case side2=>exact (Kd.R_reads' HO234.out).2.1);(case side3=>exact qz45);(case side4=>exact (Kd.R_reads' HO230.out).2.1);rintro e w15 ⟨rfl,hb⟩;refine ⟨_,rfl,?_⟩;have n0_:=Aside0.mk (Kd.R_below qz36 hb);have n1_:=Aside0.mk (Kd.R_below (by (with_reducible repeat (first|apply Kd.R_alloc|apply Kd.R_drewN|apply Kd.R_drew));exact HO234.out) hb);have n2_:=Aside0.mk (below_step qz1 hb);clear HO230 HO234 HB;have HO230:=n0_;have HO234:=n1_;have HB:=n2_;clear n0_ n1_ n2_;(try clear hb);(try clear hb2);(try clear hk);(try clear hi)))
    go_meet
    case rel=>exact ⟨_,(true),qz6,H',⟨qz35⟩,⟨qz55⟩,⟨qz54⟩,⟨qz2⟩⟩
  case rest=>
   clear HC5
   try clear c1
   try clear c2
   try clear c2b0
   try clear c2b1
   try clear p2
   try clear c5
   try clear c9
   try clear c10
   try clear c14
   try clear c15
   obtain ⟨kq,x32_4,rfl,HA,HJ4,HO_3,HO_5,HB⟩:=hcut
   cases kq with
   | zero=>exact absurd HA.out (by simp [laws_FnExactTrmRead.j0])
   | succ kj4=>
    have H:=HA.out
    clear HA
    simp only [laws_FnExactTrmRead.j0] at H
    by_cases c16:x32_4=true
    ·subst c16
     have H1:(some false)=some r:=qz23
     clear H
     have H:=H1
     clear H1
     obtain rfl:=Option.some.inj H
     go_wp2
     go_ret
     exact ⟨qz5,qz2⟩
    ·replace c16:=Bool.eq_false_iff.mpr c16
     subst c16
     have H1:((laws_markTrmCellS.f kj4 t231 1).bind fun bt236=>((laws_heldTrmCellS.f kj4 bt236.2 1).bind fun t238=>(if t238<0 then (some false) else (if t238=bt236.1 then ((impl_TrmRead.f kj4 a0).bind fun bt239=>((laws_eqTrmCellS.f kj4 bt239.1 t227).bind fun t243=>(if t243=true then (laws_FnExactTrmRead.j1 kj4 bt236.2 bt236.1 (bt239.2 != t228)) else (laws_FnExactTrmRead.j1 kj4 bt236.2 bt236.1 true)))) else (some false)))))=some r:=qz14
     clear H
     have H:=H1
     clear H1
     replace H:=Option.bind_eq_some_iff.mp H
     obtain ⟨⟨t236,t237⟩,A170,H⟩:=H
     try dsimp only at H
     have A17:=Aside0.mk A170
     clear A170
     replace H:=Option.bind_eq_some_iff.mp H
     obtain ⟨t238,A180,H⟩:=H
     try dsimp only at H
     have A18:=Aside0.mk A180
     clear A180
     by_cases c19:t238<0
     ·rw [if_pos c19] at H
      have c19b0:decide (t238<0)=true:=decide_eq_true c19
      clear c19
      obtain rfl:=Option.some.inj H
      obtain ⟨Ao20,co20,eo20⟩:=Kd.R_slice HO_5.out
      subst eo20
      go_wp2_with (first|((with_reducible refine gate_callee (f:=16) rfl ?_);refine goesL_ (some 35) rfl rfl Tryd.func16 (by kernel_rfl) rfl #[.slice Ao20 t231.length co20,.int .i64 1] rfl qz3 ?_;(with_reducible refine (laws_markTrmCellS.calls kj4 (fun k_=>some k_=(.slice Ao20 t231.length co20:Value).ownBlock) (.slice Ao20 t231.length co20) t231 1 t236 t237 w _ ?side1 ?side2 A17.out).mono ?_);(case side1=>exact qz2);(case side2=>exact Kd.R_tight rfl HO_5.out);rintro e w21 ⟨rfl,hy0,hb,hkp⟩;refine ⟨_,rfl,?_⟩;have n0_:=Aside0.mk (Kd.R_mono (ok':=fun k_=>some k_≠(.slice Ao20 t231.length co20:Value).ownBlock) (Kd.R_keptB (HO_3.out) hkp (fun k_ hk_ hs_=>(hk_) hs_)) (fun k_ hk_=>hk_.1));have n1_:=Aside0.mk (Kd.R_reok rfl hy0 (fun k_ e_=>HO_5.out.1 k_ e_));have n2_:=Aside0.mk (hb);clear HO_3 HO_5 HB;have HO_3:=n0_;have HO_5:=n1_;have HB:=n2_;clear n0_ n1_ n2_;(try clear hb);(try clear hkp);(try clear hy0))|((with_reducible refine gate_callee (f:=17) rfl ?_);refine goesL_ (some 38) rfl rfl Tryd.func17 (by kernel_rfl) rfl #[.slice Ao20 t237.length co20,.int .i64 1] rfl qz27 ?_;(with_reducible refine (laws_heldTrmCellS.calls kj4 _ _ t237 1 t238 _ ?side1 ?side2 A18.out).mono ?_);(case side1=>exact qz21);(case side2=>exact qz40);rintro e w22 ⟨rfl,hb⟩;refine ⟨_,rfl,?_⟩;have n0_:=Aside0.mk (Kd.R_below qz24 hb);have n1_:=Aside0.mk (Kd.R_below qz7 hb);have n2_:=Aside0.mk (below_step qz1 hb);clear HO_3 HO_5 HB;have HO_3:=n0_;have HO_5:=n1_;have HB:=n2_;clear n0_ n1_ n2_;(try clear hb);(try clear hb2);(try clear hk);(try clear hi)))
      go_ret
      exact ⟨qz5,qz2⟩
     ·rw [if_neg c19] at H
      have c19b0:decide (t238<0)=false:=decide_eq_false c19
      clear c19
      by_cases c23:t238=t236
      ·rw [if_pos c23] at H
       have c23b0:(t238 == t236)=true:=beq_iff_eq.mpr c23
       have c23b1:(t238 != t236)=false:=bne_eq_false_iff_eq.mpr c23
       clear c23
       replace H:=Option.bind_eq_some_iff.mp H
       obtain ⟨⟨t239,t240⟩,A240,H⟩:=H
       try dsimp only at H
       have A24:=Aside0.mk A240
       clear A240
       have HC25:=Aside0.mk H
       clear H
       obtain ⟨Ao26,co26,eo26⟩:=Kd.R_slice HO_5.out
       subst eo26
       go_upto_region 16 with (first|((with_reducible refine gate_callee (f:=16) rfl ?_);refine goesL_ (some 35) rfl rfl Tryd.func16 (by kernel_rfl) rfl #[.slice Ao26 t231.length co26,.int .i64 1] rfl qz3 ?_;(with_reducible refine (laws_markTrmCellS.calls kj4 (fun k_=>some k_=(.slice Ao26 t231.length co26:Value).ownBlock) (.slice Ao26 t231.length co26) t231 1 t236 t237 w _ ?side1 ?side2 A17.out).mono ?_);(case side1=>exact qz2);(case side2=>exact Kd.R_tight rfl HO_5.out);rintro e w27 ⟨rfl,hy0,hb,hkp⟩;refine ⟨_,rfl,?_⟩;have n0_:=Aside0.mk (Kd.R_mono (ok':=fun k_=>some k_≠(.slice Ao26 t231.length co26:Value).ownBlock) (Kd.R_keptB (HO_3.out) hkp (fun k_ hk_ hs_=>(hk_) hs_)) (fun k_ hk_=>hk_.1));have n1_:=Aside0.mk (Kd.R_reok rfl hy0 (fun k_ e_=>HO_5.out.1 k_ e_));have n2_:=Aside0.mk (hb);clear HO_3 HO_5 HB;have HO_3:=n0_;have HO_5:=n1_;have HB:=n2_;clear n0_ n1_ n2_;(try clear hb);(try clear hkp);(try clear hy0))|((with_reducible refine gate_callee (f:=17) rfl ?_);refine goesL_ (some 38) rfl rfl Tryd.func17 (by kernel_rfl) rfl #[.slice Ao26 t237.length co26,.int .i64 1] rfl qz27 ?_;(with_reducible refine (laws_heldTrmCellS.calls kj4 _ _ t237 1 t238 _ ?side1 ?side2 A18.out).mono ?_);(case side1=>exact qz21);(case side2=>exact qz40);rintro e w28 ⟨rfl,hb⟩;refine ⟨_,rfl,?_⟩;have n0_:=Aside0.mk (Kd.R_below qz24 hb);have n1_:=Aside0.mk (Kd.R_below qz7 hb);have n2_:=Aside0.mk (below_step qz1 hb);clear HO_3 HO_5 HB;have HO_3:=n0_;have HO_5:=n1_;have HB:=n2_;clear n0_ n1_ n2_;(try clear hb);(try clear hb2);(try clear hk);(try clear hi))|((with_reducible refine gate_callee (f:=14) rfl ?_);refine goesL_ (some 46) rfl rfl Tryd.func14 (by kernel_rfl) rfl #[.string a0] rfl qz3 ?_;(with_reducible refine (impl_TrmRead.calls (hE_:=HE_.out.below qz1) (hT_:=HT_.out.below qz1) kj4 a0 t239 t240 _ A24.out).mono ?_);rintro e w29 ⟨v241,rfl,ho0,hb⟩;refine ⟨_,rfl,?_⟩;have n0_:=Aside0.mk (Kd.R_elder' qz24 (Kd.R_base ho0) hb);have n1_:=Aside0.mk (Kd.R_elder' qz7 (Kd.R_base ho0) hb);have n2_:=Aside0.mk (Kd.R_lower (Kd.R_new' (Kd.R_new' ho0 (Kd.R_lt qz24)) (Kd.R_lt qz7)) (below_size qz1));have n3_:=Aside0.mk (below_step qz1 hb);clear HO_3 HO_5 HB;have HO_3:=n0_;have HO_5:=n1_;have HO242:=n2_;have HB:=n3_;clear n0_ n1_ n2_ n3_;(try clear hb);(try clear hb2);(try clear hk);(try clear hi);(try clear ho0)))
       (try simp only [Act.put,List.setIfInBounds_toArray,List.set_cons_zero,List.set_cons_succ])
       go_cut [57] (fun v57 wc=>∃ (kq:Nat) (x57_24:Bool),v57 = .bool x57_24∧Aside0 (laws_FnExactTrmRead.j1 kq t237 t236 x57_24=some r)∧Aside0 (kq≤kj4)∧Aside0 (Kd.R k34 34 wc w.heap.size (fun _=>True) (.slice Ao26 t231.length co26) t237)∧Aside0 (Below w.heap.size w wc))
       case first=>
        have H:=HC25.out
        clear HC25
        replace H:=Option.bind_eq_some_iff.mp H
        obtain ⟨t243,A300,H⟩:=H
        try dsimp only at H
        have A30:=Aside0.mk A300
        clear A300
        by_cases c31:t243=true
        ·subst c31
         have H1:(laws_FnExactTrmRead.j1 kj4 t237 t236 (t240 != t228))=some r:=qz23
         clear H
         have H:=H1
         clear H1
         have H':=Aside0.mk H
         clear H
         obtain ⟨Ao32,co32,eo32⟩:=Kd.R_slice HO242.out
         subst eo32
         obtain ⟨Ao33,co33,eo33⟩:=Kd.R_slice HO_3.out
         subst eo33
         go_wp2_with (first|((with_reducible refine gate_callee (f:=10) rfl ?_);refine goesL_ (some 51) rfl rfl Tryd.func10 (by kernel_rfl) rfl #[.slice Ao32 t239.length co32,.slice Ao33 t227.length co33] rfl qz3 ?_;(with_reducible refine (laws_eqTrmCellS.calls kj4 _ _ t239 _ _ t227 true _ ?side1 ?side2 ?side3 ?side4 A30.out).mono ?_);(case side1=>exact qz43);(case side2=>exact (Kd.R_reads' HO242.out).2.1);(case side3=>exact qz46);(case side4=>exact (Kd.R_reads' HO_3.out).2.1);rintro e w34 ⟨rfl,hb⟩;refine ⟨_,rfl,?_⟩;have n0_:=Aside0.mk (Kd.R_below qz24 hb);have n1_:=Aside0.mk (Kd.R_below qz7 hb);have n2_:=Aside0.mk (Kd.R_below (by (with_reducible repeat (first|apply Kd.R_alloc|apply Kd.R_drewN|apply Kd.R_drew));exact HO242.out) hb);have n3_:=Aside0.mk (below_step qz1 hb);clear HO_3 HO_5 HO242 HB;have HO_3:=n0_;have HO_5:=n1_;have HO242:=n2_;have HB:=n3_;clear n0_ n1_ n2_ n3_;(try clear hb);(try clear hb2);(try clear hk);(try clear hi)))
         go_meet
         case rel=>exact ⟨_,((t240 != t228)),qz6,H',⟨by have:=HJ4.out;first|omega|exact Nat.le_refl _⟩,⟨qz53⟩,⟨qz2⟩⟩
        ·replace c31:=Bool.eq_false_iff.mpr c31
         subst c31
         have H1:(laws_FnExactTrmRead.j1 kj4 t237 t236 true)=some r:=qz14
         clear H
         have H:=H1
         clear H1
         have H':=Aside0.mk H
         clear H
         obtain ⟨Ao35,co35,eo35⟩:=Kd.R_slice HO242.out
         subst eo35
         obtain ⟨Ao36,co36,eo36⟩:=Kd.R_slice HO_3.out
         subst eo36
         go_wp2_with (first|((with_reducible refine gate_callee (f:=10) rfl ?_);refine goesL_ (some 51) rfl rfl Tryd.func10 (by kernel_rfl) rfl #[.slice Ao35 t239.length co35,.slice Ao36 t227.length co36] rfl qz3 ?_;(with_reducible refine (laws_eqTrmCellS.calls kj4 _ _ t239 _ _ t227 false _ ?side1 ?side2 ?side3 ?side4 A30.out).mono ?_);(case side1=>exact qz43);(case side2=>exact (Kd.R_reads' HO242.out).2.1);(case side3=>exact qz46);(case side4=>exact (Kd.R_reads' HO_3.out).2.1);rintro e w37 ⟨rfl,hb⟩;refine ⟨_,rfl,?_⟩;have n0_:=Aside0.mk (Kd.R_below qz24 hb);have n1_:=Aside0.mk (Kd.R_below qz7 hb);have n2_:=Aside0.mk (Kd.R_below (by (with_reducible repeat (first|apply Kd.R_alloc|apply Kd.R_drewN|apply Kd.R_drew));exact HO242.out) hb);have n3_:=Aside0.mk (below_step qz1 hb);clear HO_3 HO_5 HO242 HB;have HO_3:=n0_;have HO_5:=n1_;have HO242:=n2_;have HB:=n3_;clear n0_ n1_ n2_ n3_;(try clear hb);(try clear hb2);(try clear hk);(try clear hi)))
         go_meet
         case rel=>exact ⟨_,(true),qz6,H',⟨by have:=HJ4.out;first|omega|exact Nat.le_refl _⟩,⟨qz53⟩,⟨qz2⟩⟩
       case rest=>
        clear HC25
        try clear c1
        try clear c2
        try clear c2b0
        try clear c2b1
        try clear p2
        try clear c3
        try clear c5
        try clear c9
        try clear c10
        try clear c14
        try clear c15
        try clear c16
        try clear c17
        try clear c19
        try clear c19b0
        try clear c23
        try clear c23b0
        try clear c23b1
        try clear c31
        try clear p2
        obtain ⟨kq,x57_24,rfl,HA,HJ24,HO_5,HB⟩:=hcut
        have hl5_24:=(Kd.R_reads' HO_5.out).1
        rw [hl5_24] at HO_5
        (try simp only [hl5_24])
        cases kq with
        | zero=>exact absurd HA.out (by simp [laws_FnExactTrmRead.j1])
        | succ kj24=>
         have H:=HA.out
         clear HA
         simp only [laws_FnExactTrmRead.j1] at H
         by_cases c38:x57_24=true
         ·subst c38
          have H1:(some false)=some r:=qz23
          clear H
          have H:=H1
          clear H1
          obtain rfl:=Option.some.inj H
          go_wp2
          go_ret
          exact ⟨qz5,qz2⟩
         ·replace c38:=Bool.eq_false_iff.mpr c38
          subst c38
          have H1:((laws_heldTrmCellS.f kj24 t237 1).bind fun t244=>(if t244<0 then (some false) else (if t244=t236 then (some true) else (some false))))=some r:=qz14
          clear H
          have H:=H1
          clear H1
          replace H:=Option.bind_eq_some_iff.mp H
          obtain ⟨t244,A390,H⟩:=H
          try dsimp only at H
          have A39:=Aside0.mk A390
          clear A390
          by_cases c40:t244<0
          ·rw [if_pos c40] at H
           have c40b0:decide (t244<0)=true:=decide_eq_true c40
           clear c40
           obtain rfl:=Option.some.inj H
           go_wp2_with (first|((with_reducible refine gate_callee (f:=17) rfl ?_);refine goesL_ (some 60) rfl rfl Tryd.func17 (by kernel_rfl) rfl #[.slice Ao26 t237.length co26,.int .i64 1] rfl qz3 ?_;(with_reducible refine (laws_heldTrmCellS.calls kj24 _ _ t237 1 t244 _ ?side1 ?side2 A39.out).mono ?_);(case side1=>exact qz21);(case side2=>exact (Kd.R_reads' HO_5.out).2.1);rintro e w41 ⟨rfl,hb⟩;refine ⟨_,rfl,?_⟩;have n0_:=Aside0.mk (Kd.R_below qz7 hb);have n1_:=Aside0.mk (below_step qz1 hb);clear HO_5 HB;have HO_5:=n0_;have HB:=n1_;clear n0_ n1_;(try clear hb);(try clear hb2);(try clear hk);(try clear hi)))
           go_ret
           exact ⟨qz5,qz2⟩
          ·rw [if_neg c40] at H
           have c40b0:decide (t244<0)=false:=decide_eq_false c40
           clear c40
           by_cases c42:t244=t236
           ·rw [if_pos c42] at H
            have c42b0:(t244 == t236)=true:=beq_iff_eq.mpr c42
            have c42b1:(t244 != t236)=false:=bne_eq_false_iff_eq.mpr c42
            clear c42
            obtain rfl:=Option.some.inj H
            go_wp2_with (first|((with_reducible refine gate_callee (f:=17) rfl ?_);refine goesL_ (some 60) rfl rfl Tryd.func17 (by kernel_rfl) rfl #[.slice Ao26 t237.length co26,.int .i64 1] rfl qz3 ?_;(with_reducible refine (laws_heldTrmCellS.calls kj24 _ _ t237 1 t244 _ ?side1 ?side2 A39.out).mono ?_);(case side1=>exact qz21);(case side2=>exact (Kd.R_reads' HO_5.out).2.1);rintro e w43 ⟨rfl,hb⟩;refine ⟨_,rfl,?_⟩;have n0_:=Aside0.mk (Kd.R_below qz7 hb);have n1_:=Aside0.mk (below_step qz1 hb);clear HO_5 HB;have HO_5:=n0_;have HB:=n1_;clear n0_ n1_;(try clear hb);(try clear hb2);(try clear hk);(try clear hi)))
            go_ret
            exact ⟨qz5,qz2⟩
           ·rw [if_neg c42] at H
            have c42b0:(t244 == t236)=false:=beq_eq_false_iff_ne.mpr c42
            have c42b1:(t244 != t236)=true:=bne_iff_ne.mpr c42
            obtain rfl:=Option.some.inj H
            go_wp2_with (first|((with_reducible refine gate_callee (f:=17) rfl ?_);refine goesL_ (some 60) rfl rfl Tryd.func17 (by kernel_rfl) rfl #[.slice Ao26 t237.length co26,.int .i64 1] rfl qz3 ?_;(with_reducible refine (laws_heldTrmCellS.calls kj24 _ _ t237 1 t244 _ ?side1 ?side2 A39.out).mono ?_);(case side1=>exact qz21);(case side2=>exact (Kd.R_reads' HO_5.out).2.1);rintro e w44 ⟨rfl,hb⟩;refine ⟨_,rfl,?_⟩;have n0_:=Aside0.mk (Kd.R_below qz7 hb);have n1_:=Aside0.mk (below_step qz1 hb);clear HO_5 HB;have HO_5:=n0_;have HB:=n1_;clear n0_ n1_;(try clear hb);(try clear hb2);(try clear hk);(try clear hi)))
            go_ret
            exact ⟨qz5,qz2⟩
      ·rw [if_neg c23] at H
       have c23b0:(t238 == t236)=false:=beq_eq_false_iff_ne.mpr c23
       have c23b1:(t238 != t236)=true:=bne_iff_ne.mpr c23
       obtain rfl:=Option.some.inj H
       obtain ⟨Ao45,co45,eo45⟩:=Kd.R_slice HO_5.out
       subst eo45
       go_wp2_with (first|((with_reducible refine gate_callee (f:=16) rfl ?_);refine goesL_ (some 35) rfl rfl Tryd.func16 (by kernel_rfl) rfl #[.slice Ao45 t231.length co45,.int .i64 1] rfl qz3 ?_;(with_reducible refine (laws_markTrmCellS.calls kj4 (fun k_=>some k_=(.slice Ao45 t231.length co45:Value).ownBlock) (.slice Ao45 t231.length co45) t231 1 t236 t237 w _ ?side1 ?side2 A17.out).mono ?_);(case side1=>exact qz2);(case side2=>exact Kd.R_tight rfl HO_5.out);rintro e w46 ⟨rfl,hy0,hb,hkp⟩;refine ⟨_,rfl,?_⟩;have n0_:=Aside0.mk (Kd.R_mono (ok':=fun k_=>some k_≠(.slice Ao45 t231.length co45:Value).ownBlock) (Kd.R_keptB (HO_3.out) hkp (fun k_ hk_ hs_=>(hk_) hs_)) (fun k_ hk_=>hk_.1));have n1_:=Aside0.mk (Kd.R_reok rfl hy0 (fun k_ e_=>HO_5.out.1 k_ e_));have n2_:=Aside0.mk (hb);clear HO_3 HO_5 HB;have HO_3:=n0_;have HO_5:=n1_;have HB:=n2_;clear n0_ n1_ n2_;(try clear hb);(try clear hkp);(try clear hy0))|((with_reducible refine gate_callee (f:=17) rfl ?_);refine goesL_ (some 38) rfl rfl Tryd.func17 (by kernel_rfl) rfl #[.slice Ao45 t237.length co45,.int .i64 1] rfl qz27 ?_;(with_reducible refine (laws_heldTrmCellS.calls kj4 _ _ t237 1 t238 _ ?side1 ?side2 A18.out).mono ?_);(case side1=>exact qz21);(case side2=>exact qz40);rintro e w47 ⟨rfl,hb⟩;refine ⟨_,rfl,?_⟩;have n0_:=Aside0.mk (Kd.R_below qz24 hb);have n1_:=Aside0.mk (Kd.R_below qz7 hb);have n2_:=Aside0.mk (below_step qz1 hb);clear HO_3 HO_5 HB;have HO_3:=n0_;have HO_5:=n1_;have HB:=n2_;clear n0_ n1_ n2_;(try clear hb);(try clear hb2);(try clear hk);(try clear hi)))
       go_ret
       exact ⟨qz5,qz2⟩

end Go.Proofs.YtibencknfheplaaDoor.P
