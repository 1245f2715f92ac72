/- Contracts of functions of the program: each as a Lean function, and that its call does what that says; printed by cprint.py (this session) over print.py of the kit. Conditions: the hypotheses of each theorem. -/
import Derived.Test.YtepkgjcobocbpaaDoorVZ
import Derived.Test.YtepkgjcobocbpaaDoorP0
import Derived.Test.YtepkgjcobocbpaaDoorP2
import Derived.Test.YtepkgjcobocbpaaDoorP7
import Derived.Test.YtepkgjcobocbpaaDoorP8
namespace Go.Proofs.YtepkgjcobocbpaaDoor.P
open Go.RowKit Go.Proofs.YtepkgjcobocbpaaDoorW.PrintWords Go.Proofs.YtepkgjcobocbpaaDoorW.PrintLast Go.Proofs.YtepkgjcobocbpaaDoorW.PrintMore
attribute [local go_sem] max2_int min2_int max_two min_two max_three min_three max_four min_four   -- for this text's walks alone
set_option linter.unusedVariables false
set_option linter.unusedSimpArgs false

/-! ### spec_l20Head: function 65 -/
def spec_l20Head.f (k:Nat) (s0_0:List Int) (s0_1:Int):Option ((List (S47)) × Int):=(some (([(⟨#[101]⟩:ByteArray),(⟨#[112]⟩:ByteArray),(⟨#[104]⟩:ByteArray)]:List ByteArray):List ByteArray)).bind fun y171=>((spec_l20Rd_pick.f k s0_0 s0_1 3).bind fun bt174=>(if 0≤bt174.1 then (if bt174.1<(y171.length:Int) then ((spec_l20Term.f k s0_0 bt174.2 4 3).bind fun bt177=>((spec_l20Term.f k s0_0 bt177.2 4 3).bind fun bt181=>((spec_TrmMake.f k (rdOf ByteArray.empty y171 bt174.1) (([bt177.1,bt181.1]:List (List (S47))))).bind fun t188=>(some (t188,bt181.2))))) else (none)) else (none)))
def spec_l20Head.T1:Bool × List (List Nat × List Nat):=(true,[([],[]),([],[]),([1],[1]),([0,2],[0,2]),([3],[3]),([],[]),([5,2],[5]),([],[]),([7,6],[7]),([6,8],[6,8]),([4,9,8],[4,9]),([10,10,0,1,2,3,4,5,6,7,8,9,10],[10])])
def spec_l20Head.B1:List Nat:=[0,0,2,7,15,0,38,0,230,486,1023,2047]
theorem spec_l20Head.tab1:rtab .any (opsOf Tryd.f65 1)=spec_l20Head.T1:=by kernel_rfl
theorem spec_l20Head.bits1:waitsOk spec_l20Head.T1.2 spec_l20Head.B1=true:=by kernel_rfl
set_option maxHeartbeats 8000000 in
set_option maxRecDepth 100000 in
theorem spec_l20Head.calls (k:Nat) (g:Nat) (s0_0:List Int) (s0_1:Int) (r1:List (S47)) (r2:Int) (w0 w:World) (hI:IsS104 w0 w g s0_0 s0_1) (hB:Below w0.heap.size w0 w) (h:spec_l20Head.f k s0_0 s0_1=some (r1,r2)) :
  Calls Tryd.prog 65 #[.pointer (some ⟨g,0,none⟩)] w fun e w'=>∃ v0_:Value,e = .returned (v0_)∧Kd.R k47 47 w' w.heap.size (fun _=>True) v0_ r1∧IsS104 w0 w' g s0_0 r2∧Below w0.heap.size w0 w'∧KeepBut w w' g none:=by
 have HI0:=Aside0.mk hI
 have HK:=Aside0.mk (KeepBut.refl w g none)
 have HL:=Aside0.mk hB.size
 clear hI
 have HW0:=Aside0.mk hB.size
 have HB:=Aside0.mk hB
 clear hB
 have H:((some (([(⟨#[101]⟩:ByteArray),(⟨#[112]⟩:ByteArray),(⟨#[104]⟩:ByteArray)]:List ByteArray):List ByteArray)).bind fun y171=>((spec_l20Rd_pick.f k s0_0 s0_1 3).bind fun bt174=>(if 0≤bt174.1 then (if bt174.1<(y171.length:Int) then ((spec_l20Term.f k s0_0 bt174.2 4 3).bind fun bt177=>((spec_l20Term.f k s0_0 bt177.2 4 3).bind fun bt181=>((spec_TrmMake.f k (rdOf ByteArray.empty y171 bt174.1) (([bt177.1,bt181.1]:List (List (S47))))).bind fun t188=>(some (t188,bt181.2))))) else (none)) else (none))))=some (r1,r2):=h
 clear h
 obtain ⟨y171,hy171⟩:∃ y_:List ByteArray,y_=(([(⟨#[101]⟩:ByteArray),(⟨#[112]⟩:ByteArray),(⟨#[104]⟩:ByteArray)]:List ByteArray)):=⟨_,rfl⟩
 replace H:((spec_l20Rd_pick.f k s0_0 s0_1 3).bind fun bt174=>(if 0≤bt174.1 then (if bt174.1<(y171.length:Int) then ((spec_l20Term.f k s0_0 bt174.2 4 3).bind fun bt177=>((spec_l20Term.f k s0_0 bt177.2 4 3).bind fun bt181=>((spec_TrmMake.f k (rdOf ByteArray.empty y171 bt174.1) (([bt177.1,bt181.1]:List (List (S47))))).bind fun t188=>(some (t188,bt181.2))))) else (none)) else (none)))=some (r1,r2):=by first|(rw [hy171];exact H)|exact H
 have Ny171:=Aside0.mk hy171
 clear hy171
 replace H:=Option.bind_eq_some_iff.mp H
 obtain ⟨⟨t174,t175⟩,A20,H⟩:=H
 try dsimp only at H
 have A2:=Aside0.mk A20
 clear A20
 by_cases c3:0≤t174
 ·rw [if_pos c3] at H
  have c3b0:decide (0≤t174)=true:=decide_eq_true c3
  clear c3
  by_cases c4:t174<(y171.length:Int)
  ·rw [if_pos c4] at H
   have c4b0:decide (t174<(y171.length:Int))=true:=decide_eq_true c4
   clear c4
   replace H:=Option.bind_eq_some_iff.mp H
   obtain ⟨⟨t177,t180⟩,A50,H⟩:=H
   try dsimp only at H
   have A5:=Aside0.mk A50
   clear A50
   replace H:=Option.bind_eq_some_iff.mp H
   obtain ⟨⟨t181,t184⟩,A60,H⟩:=H
   try dsimp only at H
   have A6:=Aside0.mk A60
   clear A60
   obtain ⟨y185,hy185⟩:∃ y_:List (List (S47)),y_=(([t177,t181]:List (List (S47)))):=⟨_,rfl⟩
   replace H:((spec_TrmMake.f k (rdOf ByteArray.empty y171 t174) y185).bind fun t188=>(some (t188,t184)))=some (r1,r2):=by first|(rw [hy185];exact H)|exact H
   have Ny185:=Aside0.mk hy185
   clear hy185
   replace H:=Option.bind_eq_some_iff.mp H
   obtain ⟨t188,A70,H⟩:=H
   try dsimp only at H
   have A7:=Aside0.mk A70
   clear A70
   simp only [Option.some.injEq,Prod.mk.injEq] at H
   obtain ⟨rfl,rfl⟩:=H
   go_enter Tryd.func65,Tryd.ntmps65
   try go_wp2
   have pi176:(0≤(t174:Int))=True:=eq_true (of_decide_eq_true qz10)
   have qi176:(t174<(y171.length:Int))=True:=eq_true (of_decide_eq_true qz10)
   have n0_:=Aside0.mk (IsS104.drew HI0.out)
   have n1_:=Aside0.mk (keep_drew HK.out)
   have n2_:=Aside0.mk (below_drew1 HB.out)
   clear HI0 HK HB
   have HI0:=n0_
   have HK:=n1_
   have HB:=n2_
   clear n0_ n1_ n2_
   refine start_ (n:=12) (S:=fun w'=>True) (ds:=[]) #[false,false,false,false,false,false,false,false,false,false,false,false] (by kernel_rfl) rfl rfl trivial (fun hHeld=>?_);refine with_tabW spec_l20Head.tab1 spec_l20Head.bits1 (fun HT_ HW_=>?_)
   generalize w.drew=w8 at HI0 HK HB hHeld ⊢
   refine pure_ (i:=1) (N:=some 4) (v:=?_) (a':=?_) #[false,true,false,false,false,false,false,false,false,false,false,false] rfl rfl (any_of HT_.out (by kernel_rfl)) (fun _ _ _ h=>h) (Or.inl ⟨by rfl,?_⟩) ?_ ?_
   rotate_left
   ·intro w'
    go_simp
    with_reducible rfl
   rotate_left
   ·simp only [Act.put,List.setIfInBounds_toArray,List.set_cons_zero,List.set_cons_succ,i64_w,i32_w]
    rfl
   refine pure_ (i:=5) (N:=some 8) (v:=?_) (a':=?_) #[false,true,false,false,false,true,false,false,false,false,false,false] rfl rfl (any_of HT_.out (by kernel_rfl)) (fun _ _ _ h=>h) (Or.inl ⟨by rfl,?_⟩) ?_ ?_
   rotate_left
   ·intro w'
    go_simp
    with_reducible rfl
   rotate_left
   ·simp only [Act.put,List.setIfInBounds_toArray,List.set_cons_zero,List.set_cons_succ,i64_w,i32_w]
    rfl
   refine pure_ (i:=7) (N:=some 10) (v:=?_) (a':=?_) #[false,true,false,false,false,true,false,true,false,false,false,false] rfl rfl (any_of HT_.out (by kernel_rfl)) (fun _ _ _ h=>h) (Or.inl ⟨by rfl,?_⟩) ?_ ?_
   rotate_left
   ·intro w'
    go_simp
    with_reducible rfl
   rotate_left
   ·simp only [Act.put,List.setIfInBounds_toArray,List.set_cons_zero,List.set_cons_succ,i64_w,i32_w]
    rfl
   refine inv_at [0,2,3,4,6,8,9,10,11] (fun a0_ b a w'=>∃ (v172:Value) (adz_v172:Addr) (v178:Value) (v182:Value) (v186:Value) (v189:Value) (m3_:Value) (m11_:Value),a=putSel a0_ b [(0,3,v172),(2,5,.int .i64 t174),(3,6,m3_),(4,7,.string (rdOf ByteArray.empty y171 t174)),(6,9,v178),(8,11,v182),(9,12,v186),(10,13,v189),(11,2,m11_)]∧(b 2=false→IsS104 w0 w' g s0_0 s0_1)∧(KeepBut w w' g none)∧(Below w0.heap.size w0 w')∧(b 0=true→Kd.R Kd.string 9 w' w.heap.size (fun _=>True) v172 y171)∧(b 0=true→∃ c_,(v172:Value) = .slice (some adz_v172) y171.length c_)∧(b 2=true→b 6=false→IsS104 w0 w' g s0_0 t175)∧(b 6=true→b 9=false→Kd.R k47 47 w' w.heap.size (fun _=>True) v178 t177)∧(b 6=true→b 8=false→IsS104 w0 w' g s0_0 t180)∧(b 8=true→b 9=false→Kd.R k47 47 w' w.heap.size (fun _=>True) v182 t181)∧(b 8=true→IsS104 w0 w' g s0_0 t184)∧(b 9=true→Kd.N (Kd.slice 47 k47) 35 w' w.heap.size (fun k_=>k_≠g) v186 y185)∧(b 10=true→Kd.R k47 47 w' w.heap.size (fun _=>True) v189 t188)∧(b 3=true→(m3_:Value) = .pointer (some (adz_v172.add (t174).toNat)))∧(b 11=true→(m11_:Value)=v189)) HT_.out HW_.out (by kernel_rfl) (by kernel_rfl) ?_ ?_ ?_
   ·exact ⟨.bool false,⟨0,0,none⟩,.bool false,.bool false,.bool false,.bool false,.bool false,.bool false,by simp only [putSel,Bool.false_eq_true,if_false],fun _=>HI0.out,HK.out,HB.out,fun h_=>absurd h_ (by decide),fun h_=>absurd h_ (by decide),fun h_=>absurd h_ (by decide),fun h_=>absurd h_ (by decide),fun h_=>absurd h_ (by decide),fun h_=>absurd h_ (by decide),fun h_=>absurd h_ (by decide),fun h_=>absurd h_ (by decide),fun h_=>absurd h_ (by decide),fun h_=>absurd h_ (by decide),fun h_=>absurd h_ (by decide)⟩
   ·skip
    clear HB HI0 HK
    refine steps_cons ?_ ?_
    ·rintro b a w' ⟨v172,adz_v172,v178,v182,v186,v189,m3_,m11_,ha,Q_HI0,Q_HK,Q_HB,Q_HO173,Q_HA_HO173,Q_HI0_e2,Q_HO179,Q_HI0_e6,Q_HO183,Q_HI0_e8,Q_HO187,Q_HO190,Q_X3_,Q_X11_⟩ hb_ hon hoff
     refine ⟨_,rfl,fun K hK=>?_⟩
     replace ha:=Aside0.mk ha
     have HK:=Aside0.mk Q_HK
     have HB:=Aside0.mk Q_HB
     refine Kd.R_lit_step Kd.string _ 9 ?hg (N:=3) ?hd (xs:=([(⟨#[101]⟩:ByteArray),(⟨#[112]⟩:ByteArray),(⟨#[104]⟩:ByteArray)]:List ByteArray)) (inner:=[.string (⟨#[101]⟩:ByteArray),.string (⟨#[112]⟩:ByteArray),.string (⟨#[104]⟩:ByteArray)]) (ok:=fun _=>True) (okp:=fun _=>True) ?hr ?hp (fun _ hk=>hk) trivial (Below.refl _ _) (Nat.le_refl _) (by simp) ?_;(case hd=>rfl);(case hg=>rfl);(case hr=>first|(go_simp;done)|(go_simp;rfl));(case hp=>exact (Reps.one (show Kd.M Kd.string _ _ _ (⟨#[101]⟩:ByteArray) [.string (⟨#[101]⟩:ByteArray)] from rfl) (Reps.one (show Kd.M Kd.string _ _ _ (⟨#[112]⟩:ByteArray) [.string (⟨#[112]⟩:ByteArray)] from rfl) (Reps.one (show Kd.M Kd.string _ _ _ (⟨#[104]⟩:ByteArray) [.string (⟨#[104]⟩:ByteArray)] from rfl) (Reps.none _ _)))))
     intro v172 w9 ho10 hb hg_ hnew_
     clear hg_ hnew_
     (first|rw [← Ny171.out] at ho10|(simp only [Int.reduceToNat] at ho10;rw [← Ny171.out] at ho10))
     have n0_:=Aside0.mk (Kd.R_lower ho10 (keep_size (w:=w) (g:=g) (row:=none) qz2))
     have n2_:=Aside0.mk (KeepBut.trans qz2 (KeepBut.of_below hb g none) (.inl rfl))
     have n3_:=Aside0.mk (below_step qz6 hb)
     have z_HI0:=fun (h0_:b 2=false)=>(show IsS104 w0 w9 g s0_0 s0_1 from by first|exact (IsS104.below (by repeat (first|(with_reducible first|exact (Q_HI0 h0_)|apply IsS104.alloc|apply IsS104.drewN|apply IsS104.drew|apply IsS104.set_1)|exact (Q_HI0 h0_))) hb))
     have z_HI0_e2:=fun (h0_:b 2=true) (h1_:b 6=false)=>(show IsS104 w0 w9 g s0_0 t175 from by first|exact (IsS104.below (by repeat (first|(with_reducible first|exact (Q_HI0_e2 h0_ h1_)|apply IsS104.alloc|apply IsS104.drewN|apply IsS104.drew|apply IsS104.set_1)|exact (Q_HI0_e2 h0_ h1_))) hb))
     have z_HO179:=fun (h0_:b 6=true) (h1_:b 9=false)=>(show Kd.R k47 47 w9 w.heap.size (fun _=>True) v178 t177 from by first|exact (Kd.R_below qz125 hb)|exact Kd.R_mono (Kd.R_below qz125 hb) (fun _ h_=>qz111))
     have z_HI0_e6:=fun (h0_:b 6=true) (h1_:b 8=false)=>(show IsS104 w0 w9 g s0_0 t180 from by first|exact (IsS104.below (by repeat (first|(with_reducible first|exact (Q_HI0_e6 h0_ h1_)|apply IsS104.alloc|apply IsS104.drewN|apply IsS104.drew|apply IsS104.set_1)|exact (Q_HI0_e6 h0_ h1_))) hb))
     have z_HO183:=fun (h0_:b 8=true) (h1_:b 9=false)=>(show Kd.R k47 47 w9 w.heap.size (fun _=>True) v182 t181 from by first|exact (Kd.R_below qz124 hb)|exact Kd.R_mono (Kd.R_below qz124 hb) (fun _ h_=>qz111))
     have z_HI0_e8:=fun (h0_:b 8=true)=>(show IsS104 w0 w9 g s0_0 t184 from by first|exact (IsS104.below (by repeat (first|(with_reducible first|exact (Q_HI0_e8 h0_)|apply IsS104.alloc|apply IsS104.drewN|apply IsS104.drew|apply IsS104.set_1)|exact (Q_HI0_e8 h0_))) hb))
     have z_HO187:=fun (h0_:b 9=true)=>(show Kd.N (Kd.slice 47 k47) 35 w9 w.heap.size (fun k_=>k_≠g) v186 y185 from by first|exact (Kd.N_elder' (by (with_reducible repeat (first|apply Kd.N_alloc|apply Kd.N_drewN|apply Kd.N_drew));exact (Q_HO187 h0_)) (Kd.R_base ho10) hb)|exact Kd.N_mono (Kd.N_elder' (by (with_reducible repeat (first|apply Kd.N_alloc|apply Kd.N_drewN|apply Kd.N_drew));exact (Q_HO187 h0_)) (Kd.R_base ho10) hb) (fun _ h_=>qz111))
     clear HK HB
     have HO173:=n0_
     have HK:=n2_
     have HB:=n3_
     clear n0_ n2_ n3_ hb ho10
     obtain ⟨Ao11,co11,eo11⟩:=Kd.R_slice HO173.out
     subst eo11
     obtain ⟨ado11,fo11,_⟩:=Kd.at_string (Kd.R_reads' HO173.out).2.2 0 (by decide) (by rw [Ny171.out];simp)
     cases fo11
     refine hK.out _ _ ⟨.slice (some ado11) y171.length co11,ado11,v178,v182,v186,v189,m3_,m11_,(by rw [ha.out];exact putSel_upk 0 hb_ rfl rfl rfl),z_HI0,qz2,qz6,fun _=>qz117,fun _=>⟨_,rfl⟩,z_HI0_e2,z_HO179,z_HI0_e6,z_HO183,z_HI0_e8,z_HO187,fun h0_=>absurd ((hoff 10 (by kernel_rfl)).symm.trans h0_) (by decide),fun h0_=>absurd ((hoff 3 (by kernel_rfl)).symm.trans h0_) (by decide),fun h0_=>absurd ((hoff 11 (by kernel_rfl)).symm.trans h0_) (by decide)⟩
    refine steps_cons ?_ ?_
    ·rintro b a w' ⟨v172,adz_v172,v178,v182,v186,v189,m3_,m11_,ha,Q_HI0,Q_HK,Q_HB,Q_HO173,Q_HA_HO173,Q_HI0_e2,Q_HO179,Q_HI0_e6,Q_HO183,Q_HI0_e8,Q_HO187,Q_HO190,Q_X3_,Q_X11_⟩ hb_ hon hoff
     refine ⟨_,rfl,fun K hK=>?_⟩
     have e4:a.tmps[4]?=some (.pointer (some ⟨g,0,none⟩)):=by rw [ha];exact (putSel_off rfl).trans rfl
     replace ha:=Aside0.mk ha
     have HI0:=Aside0.mk (Q_HI0 hb_)
     have HK:=Aside0.mk Q_HK
     have HB:=Aside0.mk Q_HB
     refine goes_ Tryd.func64 (by kernel_rfl) rfl #[.pointer (some ⟨g,0,none⟩),.int .i64 3] (by rfl) rfl rfl (by first|(simp only [List.map_toArray,List.map_cons,List.map_nil,Act.eval,Array.getD_eq_getD_getElem?,Option.getD_some,e4];done)|(simp only [List.map_toArray,List.map_cons,List.map_nil,Act.eval,Array.getD_eq_getD_getElem?,Option.getD_some,e4];rfl)) ?_
     with_reducible refine (spec_l20Rd_pick.calls k g s0_0 s0_1 3 t174 t175 w0 _ ?side1 ?side2 A2.out).mono ?_
     (case side1=>exact qz1)
     (case side2=>exact qz5)
     rintro e w9 ⟨rfl,hi,hb,hk⟩
     refine ⟨_,rfl,?_⟩
     have n0_:=Aside0.mk (KeepBut.trans qz2 hk (.inl rfl))
     have n1_:=Aside0.mk (hb)
     have n2_:=Aside0.mk (hi)
     have z_HO173:=fun (h0_:b 0=true)=>(show Kd.R Kd.string 9 w9 w.heap.size (fun _=>True) v172 y171 from by first|exact (Kd.R_mono (Kd.R_keep (IsS104.apart (show IsS104 w0 _ g s0_0 s0_1 from qz1) qz56 (by decide)) hk (fun _ h=>h.2)) (fun _ h=>h.1))|exact Kd.R_mono (Kd.R_mono (Kd.R_keep (IsS104.apart (show IsS104 w0 _ g s0_0 s0_1 from qz1) qz56 (by decide)) hk (fun _ h=>h.2)) (fun _ h=>h.1)) (fun _ h_=>qz111))
     clear HK HB HI0
     have HK:=n0_
     have HB:=n1_
     have HI0:=n2_
     clear n0_ n1_ n2_
     (try clear hb)
     (try clear hb2)
     (try clear hk)
     (try clear hi)
     refine hK.out _ _ ⟨v172,adz_v172,v178,v182,v186,v189,m3_,m11_,(by rw [ha.out];exact putSel_upk 1 hb_ rfl rfl rfl),fun h0_=>absurd ((up_self b 2).symm.trans h0_) (by decide),qz2,qz5,z_HO173,Q_HA_HO173,fun _ _=>qz1,fun h0_ _=>absurd ((hoff 6 (by kernel_rfl)).symm.trans h0_) (by decide),fun h0_ _=>absurd ((hoff 6 (by kernel_rfl)).symm.trans h0_) (by decide),fun h0_ _=>absurd ((hoff 8 (by kernel_rfl)).symm.trans h0_) (by decide),fun h0_=>absurd ((hoff 8 (by kernel_rfl)).symm.trans h0_) (by decide),fun h0_=>absurd ((hoff 9 (by kernel_rfl)).symm.trans h0_) (by decide),fun h0_=>absurd ((hoff 10 (by kernel_rfl)).symm.trans h0_) (by decide),fun h0_=>absurd ((hoff 3 (by kernel_rfl)).symm.trans h0_) (by decide),fun h0_=>absurd ((hoff 11 (by kernel_rfl)).symm.trans h0_) (by decide)⟩
    refine steps_cons ?_ ?_
    ·rintro b a w' ⟨v172,adz_v172,v178,v182,v186,v189,m3_,m11_,ha,Q_HI0,Q_HK,Q_HB,Q_HO173,Q_HA_HO173,Q_HI0_e2,Q_HO179,Q_HI0_e6,Q_HO183,Q_HI0_e8,Q_HO187,Q_HO190,Q_X3_,Q_X11_⟩ hb_ hon hoff
     refine ⟨_,rfl,fun K hK=>?_⟩
     have e3:a.tmps[3]?=some (v172):=by rw [ha];exact putSel_on (e:=(0,3,v172)) 0 rfl rfl (hon 0 (by kernel_rfl)) rfl
     have e5:a.tmps[5]?=some (.int .i64 t174):=by rw [ha];exact putSel_on (e:=(2,5,.int .i64 t174)) 1 rfl rfl (hon 2 (by kernel_rfl)) rfl
     replace ha:=Aside0.mk ha
     have HK:=Aside0.mk Q_HK
     have HB:=Aside0.mk Q_HB
     have HO173:=Aside0.mk (Q_HO173 (hon 0 (by kernel_rfl)))
     have HA_HO173:=Aside0.mk (Q_HA_HO173 (hon 0 (by kernel_rfl)))
     obtain ⟨c_,hv_⟩:=HA_HO173.out
     rw [hv_] at e3
     refine value_ (w1:=w') (v:=.pointer (some (adz_v172.add (t174).toNat))) (by rfl) rfl ?_ ?_
     ·go_simp
      (try simp only [i64_w])
      try rfl
     refine hK.out _ _ ⟨v172,adz_v172,v178,v182,v186,v189,(.pointer (some (adz_v172.add (t174).toNat))),m11_,(by rw [ha.out];exact putSel_upk 2 hb_ rfl rfl rfl),fun h0_=>absurd ((hon 2 (by kernel_rfl)).symm.trans h0_) (by decide),Q_HK,Q_HB,Q_HO173,Q_HA_HO173,Q_HI0_e2,Q_HO179,Q_HI0_e6,Q_HO183,Q_HI0_e8,Q_HO187,fun h0_=>absurd ((hoff 10 (by kernel_rfl)).symm.trans h0_) (by decide),fun _=>rfl,fun h0_=>absurd ((hoff 11 (by kernel_rfl)).symm.trans h0_) (by decide)⟩
    refine steps_cons ?_ ?_
    ·rintro b a w' ⟨v172,adz_v172,v178,v182,v186,v189,m3_,m11_,ha,Q_HI0,Q_HK,Q_HB,Q_HO173,Q_HA_HO173,Q_HI0_e2,Q_HO179,Q_HI0_e6,Q_HO183,Q_HI0_e8,Q_HO187,Q_HO190,Q_X3_,Q_X11_⟩ hb_ hon hoff
     refine ⟨_,rfl,fun K hK=>?_⟩
     have e6:a.tmps[6]?=some (m3_):=by rw [ha];exact putSel_on (e:=(3,6,m3_)) 2 rfl rfl (hon 3 (by kernel_rfl)) rfl
     rw [Q_X3_ (hon 3 (by kernel_rfl))] at e6
     replace ha:=Aside0.mk ha
     have HK:=Aside0.mk Q_HK
     have HB:=Aside0.mk Q_HB
     have HO173:=Aside0.mk (Q_HO173 (hon 0 (by kernel_rfl)))
     have HA_HO173:=Aside0.mk (Q_HA_HO173 (hon 0 (by kernel_rfl)))
     obtain ⟨c_,hv_⟩:=HA_HO173.out
     have hF_:=HO173.out
     rw [hv_] at hF_
     obtain ⟨ad_,ea_,hx_⟩:=Kd.at_string (Kd.R_reads' hF_).2.2 t174 (of_eq_true pi176) (of_eq_true qi176)
     cases ea_
     refine value_ (w1:=w') (v:=.string (rdOf ByteArray.empty y171 t174)) (by rfl) rfl ?_ ?_
     ·go_simp
      (try simp only [i64_w])
      try rfl
     refine hK.out _ _ ⟨v172,adz_v172,v178,v182,v186,v189,m3_,m11_,(by rw [ha.out];exact putSel_upk 3 hb_ rfl rfl rfl),fun h0_=>absurd ((hon 2 (by kernel_rfl)).symm.trans h0_) (by decide),Q_HK,Q_HB,Q_HO173,Q_HA_HO173,Q_HI0_e2,Q_HO179,Q_HI0_e6,Q_HO183,Q_HI0_e8,Q_HO187,fun h0_=>absurd ((hoff 10 (by kernel_rfl)).symm.trans h0_) (by decide),Q_X3_,fun h0_=>absurd ((hoff 11 (by kernel_rfl)).symm.trans h0_) (by decide)⟩
    refine steps_cons ?_ ?_
    ·rintro b a w' ⟨v172,adz_v172,v178,v182,v186,v189,m3_,m11_,ha,Q_HI0,Q_HK,Q_HB,Q_HO173,Q_HA_HO173,Q_HI0_e2,Q_HO179,Q_HI0_e6,Q_HO183,Q_HI0_e8,Q_HO187,Q_HO190,Q_X3_,Q_X11_⟩ hb_ hon hoff
     refine ⟨_,rfl,fun K hK=>?_⟩
     have e8:a.tmps[8]?=some (.pointer (some ⟨g,0,none⟩)):=by rw [ha];exact (putSel_off rfl).trans rfl
     replace ha:=Aside0.mk ha
     have HK:=Aside0.mk Q_HK
     have HB:=Aside0.mk Q_HB
     have HI0:=Aside0.mk (Q_HI0_e2 (hon 2 (by kernel_rfl)) hb_)
     refine goes_ Tryd.func66 (by kernel_rfl) rfl #[.pointer (some ⟨g,0,none⟩),.int .i64 4,.int .i64 3] (by rfl) rfl rfl (by first|(simp only [List.map_toArray,List.map_cons,List.map_nil,Act.eval,Array.getD_eq_getD_getElem?,Option.getD_some,e8];done)|(simp only [List.map_toArray,List.map_cons,List.map_nil,Act.eval,Array.getD_eq_getD_getElem?,Option.getD_some,e8];rfl)) ?_
     with_reducible refine (spec_l20Term.calls k g s0_0 t175 4 3 t177 t180 w0 _ ?side1 ?side2 A5.out).mono ?_
     (case side1=>exact qz1)
     (case side2=>exact qz5)
     rintro e w11 ⟨v178,rfl,ho0,hi,hb,hk⟩
     refine ⟨_,rfl,?_⟩
     have n0_:=Aside0.mk (Kd.R_lower ho0 (keep_size (w:=w) (g:=g) (row:=none) qz2))
     have n1_:=Aside0.mk (KeepBut.trans qz2 hk (.inl rfl))
     have n2_:=Aside0.mk (hb)
     have n3_:=Aside0.mk (hi)
     have z_HO173:=fun (h0_:b 0=true)=>(show Kd.R Kd.string 9 w11 w.heap.size (fun _=>True) v172 y171 from by first|exact (Kd.R_mono (Kd.R_keep (IsS104.apart (show IsS104 w0 _ g s0_0 t175 from qz1) qz56 (by decide)) hk (fun _ h=>h.2)) (fun _ h=>h.1))|exact Kd.R_mono (Kd.R_mono (Kd.R_keep (IsS104.apart (show IsS104 w0 _ g s0_0 t175 from qz1) qz56 (by decide)) hk (fun _ h=>h.2)) (fun _ h=>h.1)) (fun _ h_=>qz111))
     clear HK HB HI0
     have HO179:=n0_
     have HK:=n1_
     have HB:=n2_
     have HI0:=n3_
     clear n0_ n1_ n2_ n3_
     (try clear hb)
     (try clear hb2)
     (try clear hk)
     (try clear hi)
     (try clear ho0)
     refine hK.out _ _ ⟨v172,adz_v172,v178,v182,v186,v189,m3_,m11_,(by rw [ha.out];exact putSel_upk 4 hb_ rfl rfl rfl),fun h0_=>absurd ((hon 2 (by kernel_rfl)).symm.trans h0_) (by decide),qz2,qz5,z_HO173,Q_HA_HO173,fun _ h1_=>absurd ((up_self b 6).symm.trans h1_) (by decide),fun _ _=>qz116,fun _ _=>qz1,fun h0_ _=>absurd ((hoff 8 (by kernel_rfl)).symm.trans h0_) (by decide),fun h0_=>absurd ((hoff 8 (by kernel_rfl)).symm.trans h0_) (by decide),fun h0_=>absurd ((hoff 9 (by kernel_rfl)).symm.trans h0_) (by decide),fun h0_=>absurd ((hoff 10 (by kernel_rfl)).symm.trans h0_) (by decide),Q_X3_,fun h0_=>absurd ((hoff 11 (by kernel_rfl)).symm.trans h0_) (by decide)⟩
    refine steps_cons ?_ ?_
    ·rintro b a w' ⟨v172,adz_v172,v178,v182,v186,v189,m3_,m11_,ha,Q_HI0,Q_HK,Q_HB,Q_HO173,Q_HA_HO173,Q_HI0_e2,Q_HO179,Q_HI0_e6,Q_HO183,Q_HI0_e8,Q_HO187,Q_HO190,Q_X3_,Q_X11_⟩ hb_ hon hoff
     refine ⟨_,rfl,fun K hK=>?_⟩
     have e10:a.tmps[10]?=some (.pointer (some ⟨g,0,none⟩)):=by rw [ha];exact (putSel_off rfl).trans rfl
     replace ha:=Aside0.mk ha
     have HK:=Aside0.mk Q_HK
     have HB:=Aside0.mk Q_HB
     have HO179:=Aside0.mk (Q_HO179 (hon 6 (by kernel_rfl)) (hoff 9 (by kernel_rfl)))
     have HI0:=Aside0.mk (Q_HI0_e6 (hon 6 (by kernel_rfl)) hb_)
     refine goes_ Tryd.func66 (by kernel_rfl) rfl #[.pointer (some ⟨g,0,none⟩),.int .i64 4,.int .i64 3] (by rfl) rfl rfl (by first|(simp only [List.map_toArray,List.map_cons,List.map_nil,Act.eval,Array.getD_eq_getD_getElem?,Option.getD_some,e10];done)|(simp only [List.map_toArray,List.map_cons,List.map_nil,Act.eval,Array.getD_eq_getD_getElem?,Option.getD_some,e10];rfl)) ?_
     with_reducible refine (spec_l20Term.calls k g s0_0 t180 4 3 t181 t184 w0 _ ?side1 ?side2 A6.out).mono ?_
     (case side1=>exact qz1)
     (case side2=>exact qz5)
     rintro e w12 ⟨v182,rfl,ho0,hi,hb,hk⟩
     refine ⟨_,rfl,?_⟩
     have n0_:=Aside0.mk (Kd.R_mono (Kd.R_told (Kd.R_oldK (IsS104.apart (show IsS104 w0 _ g s0_0 t180 from qz1) qz116 (by decide)) hk) (Kd.R_base ho0)) (fun _ h_=>h_.1))
     have n1_:=Aside0.mk (Kd.R_lower (Kd.R_new' ho0 (Kd.R_lt qz116)) (keep_size (w:=w) (g:=g) (row:=none) qz2))
     have n2_:=Aside0.mk (KeepBut.trans qz2 hk (.inl rfl))
     have n3_:=Aside0.mk (hb)
     have n4_:=Aside0.mk (hi)
     have z_HO173:=fun (h0_:b 0=true)=>(show Kd.R Kd.string 9 w12 w.heap.size (fun _=>True) v172 y171 from by first|exact (Kd.R_mono (Kd.R_keep (IsS104.apart (show IsS104 w0 _ g s0_0 t180 from qz1) qz56 (by decide)) hk (fun _ h=>h.2)) (fun _ h=>h.1))|exact Kd.R_mono (Kd.R_mono (Kd.R_keep (IsS104.apart (show IsS104 w0 _ g s0_0 t180 from qz1) qz56 (by decide)) hk (fun _ h=>h.2)) (fun _ h=>h.1)) (fun _ h_=>qz111))
     clear HO179 HK HB HI0
     have HO179:=n0_
     have HO183:=n1_
     have HK:=n2_
     have HB:=n3_
     have HI0:=n4_
     clear n0_ n1_ n2_ n3_ n4_
     (try clear hb)
     (try clear hb2)
     (try clear hk)
     (try clear hi)
     (try clear ho0)
     refine hK.out _ _ ⟨v172,adz_v172,v178,v182,v186,v189,m3_,m11_,(by rw [ha.out];exact putSel_upk 5 hb_ rfl rfl rfl),fun h0_=>absurd ((hon 2 (by kernel_rfl)).symm.trans h0_) (by decide),qz2,qz5,z_HO173,Q_HA_HO173,fun _ h1_=>absurd ((hon 6 (by kernel_rfl)).symm.trans h1_) (by decide),fun _ _=>(by (with_reducible repeat (first|apply Kd.R_alloc|apply Kd.R_drewN|apply Kd.R_drew));exact Kd.R_mono HO179.out (fun _ hk=>qz123)),fun _ h1_=>absurd ((up_self b 8).symm.trans h1_) (by decide),fun _ _=>(by (with_reducible repeat (first|apply Kd.R_alloc|apply Kd.R_drewN|apply Kd.R_drew));exact Kd.R_mono HO183.out (fun _ hk=>qz123)),fun _=>qz1,fun h0_=>absurd ((hoff 9 (by kernel_rfl)).symm.trans h0_) (by decide),fun h0_=>absurd ((hoff 10 (by kernel_rfl)).symm.trans h0_) (by decide),Q_X3_,fun h0_=>absurd ((hoff 11 (by kernel_rfl)).symm.trans h0_) (by decide)⟩
    refine steps_cons ?_ ?_
    ·rintro b a w' ⟨v172,adz_v172,v178,v182,v186,v189,m3_,m11_,ha,Q_HI0,Q_HK,Q_HB,Q_HO173,Q_HA_HO173,Q_HI0_e2,Q_HO179,Q_HI0_e6,Q_HO183,Q_HI0_e8,Q_HO187,Q_HO190,Q_X3_,Q_X11_⟩ hb_ hon hoff
     refine ⟨_,rfl,fun K hK=>?_⟩
     have e9:a.tmps[9]?=some (v178):=by rw [ha];exact putSel_on (e:=(6,9,v178)) 4 rfl rfl (hon 6 (by kernel_rfl)) rfl
     have e11:a.tmps[11]?=some (v182):=by rw [ha];exact putSel_on (e:=(8,11,v182)) 5 rfl rfl (hon 8 (by kernel_rfl)) rfl
     replace ha:=Aside0.mk ha
     have HK:=Aside0.mk Q_HK
     have HB:=Aside0.mk Q_HB
     have HO179:=Aside0.mk (Q_HO179 (hon 6 (by kernel_rfl)) hb_)
     have HO183:=Aside0.mk (Q_HO183 (hon 8 (by kernel_rfl)) hb_)
     have HI0:=Aside0.mk (Q_HI0_e8 (hon 8 (by kernel_rfl)))
     obtain ⟨Ao13,co13,eo13⟩:=Kd.R_slice HO179.out
     (first|subst eo13|(injection eo13 with f1_ f2_ f3_;have f4_:=f1_.symm;have f5_:=f3_.symm;clear f1_ f2_ f3_;subst f4_;subst f5_))
     obtain ⟨Ao14,co14,eo14⟩:=Kd.R_slice HO183.out
     (first|subst eo14|(injection eo14 with f1_ f2_ f3_;have f4_:=f1_.symm;have f5_:=f3_.symm;clear f1_ f2_ f3_;subst f4_;subst f5_))
     refine Kd.N_lit_step (Kd.slice 47 k47) _ 35 ?hg (N':=12) ?hd (xs:=([t177,t181]:List (List (S47)))) (inner:=[.slice Ao13 t177.length co13,.slice Ao14 t181.length co14]) (ok:=(fun k_=>k_≠g)) (okp:=(fun k_=>k_≠g)) ?hr ?hp (fun _ hk=>hk) ((show ∀ k_,w'.heap.size≤k_→(fun k_=>k_≠g) k_ from fun k_ hk=>IsS104.fresh qz1 k_ hk) _ (Nat.le_refl _)) (Below.refl _ _) (Nat.le_refl _) (by simp) ?_;(case hd=>rfl);(case hg=>rfl);(case hr=>first|(go_simp;done)|(go_simp;rfl));(case hp=>exact (Reps.one (show Kd.FK (Kd.slice 47 k47) _ _ t177 [.slice Ao13 t177.length co13] from (Kd.FK_slice_mk (Kd.R_reads' (Kd.R_mono (ok':=(fun k_=>k_≠g)) (IsS104.apart HI0.out (HO179.out) (by decide)) (fun k_ hk=>hk.2))).2.1 (Kd.R_F (Kd.R_mono (ok':=(fun k_=>k_≠g)) (IsS104.apart HI0.out (HO179.out) (by decide)) (fun k_ hk=>hk.2))))) (Reps.one (show Kd.FK (Kd.slice 47 k47) _ _ t181 [.slice Ao14 t181.length co14] from (Kd.FK_slice_mk (Kd.R_reads' (Kd.R_mono (ok':=(fun k_=>k_≠g)) (IsS104.apart HI0.out (HO183.out) (by decide)) (fun k_ hk=>hk.2))).2.1 (Kd.R_F (Kd.R_mono (ok':=(fun k_=>k_≠g)) (IsS104.apart HI0.out (HO183.out) (by decide)) (fun k_ hk=>hk.2))))) (Reps.none _ _))))
     intro v186 w15 ho16 hb hg_ hnew_
     clear hg_ hnew_
     (first|rw [← Ny185.out] at ho16|(simp only [Int.reduceToNat] at ho16;rw [← Ny185.out] at ho16))
     have n0_:=Aside0.mk (Kd.N_lower ho16 (keep_size (w:=w) (g:=g) (row:=none) qz2))
     have n1_:=Aside0.mk (IsS104.below qz1 hb)
     have n2_:=Aside0.mk (KeepBut.trans qz2 (KeepBut.of_below hb g none) (.inl rfl))
     have n3_:=Aside0.mk (below_step qz5 hb)
     have z_HO173:=fun (h0_:b 0=true)=>(show Kd.R Kd.string 9 w15 w.heap.size (fun _=>True) v172 y171 from by first|exact (Kd.R_below qz56 hb)|exact Kd.R_mono (Kd.R_below qz56 hb) (fun _ h_=>qz111))
     clear HI0 HK HB HO179 HO183
     have HO187:=n0_
     have HI0:=n1_
     have HK:=n2_
     have HB:=n3_
     clear n0_ n1_ n2_ n3_ hb ho16
     refine hK.out _ _ ⟨v172,adz_v172,.slice Ao13 t177.length co13,.slice Ao14 t181.length co14,v186,v189,m3_,m11_,(by rw [ha.out];exact putSel_upk 6 hb_ rfl rfl rfl),fun h0_=>absurd ((hon 2 (by kernel_rfl)).symm.trans h0_) (by decide),qz2,qz5,z_HO173,Q_HA_HO173,fun _ h1_=>absurd ((hon 6 (by kernel_rfl)).symm.trans h1_) (by decide),fun _ h1_=>absurd ((up_self b 9).symm.trans h1_) (by decide),fun _ h1_=>absurd ((hon 8 (by kernel_rfl)).symm.trans h1_) (by decide),fun _ h1_=>absurd ((up_self b 9).symm.trans h1_) (by decide),fun _=>qz1,fun _=>(by (with_reducible repeat (first|apply Kd.N_alloc|apply Kd.N_drewN|apply Kd.N_drew));exact HO187.out),fun h0_=>absurd ((hoff 10 (by kernel_rfl)).symm.trans h0_) (by decide),Q_X3_,fun h0_=>absurd ((hoff 11 (by kernel_rfl)).symm.trans h0_) (by decide)⟩
    refine steps_cons ?_ ?_
    ·rintro b a w' ⟨v172,adz_v172,v178,v182,v186,v189,m3_,m11_,ha,Q_HI0,Q_HK,Q_HB,Q_HO173,Q_HA_HO173,Q_HI0_e2,Q_HO179,Q_HI0_e6,Q_HO183,Q_HI0_e8,Q_HO187,Q_HO190,Q_X3_,Q_X11_⟩ hb_ hon hoff
     refine ⟨_,rfl,fun K hK=>?_⟩
     have e7:a.tmps[7]?=some (.string (rdOf ByteArray.empty y171 t174)):=by rw [ha];exact putSel_on (e:=(4,7,.string (rdOf ByteArray.empty y171 t174))) 3 rfl rfl (hon 4 (by kernel_rfl)) rfl
     have e12:a.tmps[12]?=some (v186):=by rw [ha];exact putSel_on (e:=(9,12,v186)) 6 rfl rfl (hon 9 (by kernel_rfl)) rfl
     replace ha:=Aside0.mk ha
     have HK:=Aside0.mk Q_HK
     have HB:=Aside0.mk Q_HB
     have HO173:=Aside0.mk (Q_HO173 (hon 0 (by kernel_rfl)))
     have HA_HO173:=Aside0.mk (Q_HA_HO173 (hon 0 (by kernel_rfl)))
     have HI0:=Aside0.mk (Q_HI0_e8 (hon 8 (by kernel_rfl)))
     have HO187:=Aside0.mk (Q_HO187 (hon 9 (by kernel_rfl)))
     obtain ⟨co20,eo20⟩:=HA_HO173.out
     clear HA_HO173
     subst eo20
     obtain ⟨Ao21,co21,eo21⟩:=Kd.N_slice HO187.out
     (first|subst eo21|(injection eo21 with f1_ f2_ f3_;have f4_:=f1_.symm;have f5_:=f3_.symm;clear f1_ f2_ f3_;subst f4_;subst f5_))
     refine goes_ Tryd.func19 (by kernel_rfl) rfl #[.string (rdOf ByteArray.empty y171 t174),.slice Ao21 y185.length co21] (by rfl) rfl rfl (by first|(simp only [List.map_toArray,List.map_cons,List.map_nil,Act.eval,Array.getD_eq_getD_getElem?,Option.getD_some,e7,e12];done)|(simp only [List.map_toArray,List.map_cons,List.map_nil,Act.eval,Array.getD_eq_getD_getElem?,Option.getD_some,e7,e12];rfl)) ?_
     with_reducible refine (spec_TrmMake.calls k (rdOf ByteArray.empty y171 t174) _ _ y185 t188 _ ?side1 ?side2 A7.out).mono ?_
     (case side1=>repeat (first|exact (Kd.N_reads' HO187.out).2.2|(with_reducible refine Kd.C_alloc ?_ _)|(with_reducible refine Kd.C_drewN ?_ _)|(with_reducible refine Kd.C_drew ?_)))
     (case side2=>exact (Kd.N_reads' HO187.out).2.1)
     rintro e w22 ⟨v189,rfl,ho0,hb⟩
     refine ⟨_,rfl,?_⟩
     have n0_:=Aside0.mk (Kd.R_below qz117 hb)
     have n1_:=Aside0.mk (Kd.N_elder' (by (with_reducible repeat (first|apply Kd.N_alloc|apply Kd.N_drewN|apply Kd.N_drew));exact HO187.out) (Kd.R_base ho0) hb)
     have n2_:=Aside0.mk (Kd.R_lower ho0 (keep_size (w:=w) (g:=g) (row:=none) qz2))
     have n3_:=Aside0.mk (IsS104.below qz1 hb)
     have n4_:=Aside0.mk (KeepBut.trans qz2 (KeepBut.of_below hb g none) (.inl rfl))
     have n5_:=Aside0.mk (below_step qz5 hb)
     clear HO173 HO187 HI0 HK HB
     have HO173:=n0_
     have HO187:=n1_
     have HO190:=n2_
     have HI0:=n3_
     have HK:=n4_
     have HB:=n5_
     clear n0_ n1_ n2_ n3_ n4_ n5_
     (try clear hb)
     (try clear hb2)
     (try clear hk)
     (try clear hi)
     (try clear ho0)
     refine hK.out _ _ ⟨.slice (some adz_v172) y171.length co20,adz_v172,v178,v182,.slice Ao21 y185.length co21,v189,m3_,m11_,(by rw [ha.out];exact putSel_upk 7 hb_ rfl rfl rfl),fun h0_=>absurd ((hon 2 (by kernel_rfl)).symm.trans h0_) (by decide),qz2,qz5,fun _=>qz117,fun _=>⟨_,rfl⟩,fun _ h1_=>absurd ((hon 6 (by kernel_rfl)).symm.trans h1_) (by decide),fun _ h1_=>absurd ((hon 9 (by kernel_rfl)).symm.trans h1_) (by decide),fun _ h1_=>absurd ((hon 8 (by kernel_rfl)).symm.trans h1_) (by decide),fun _ h1_=>absurd ((hon 9 (by kernel_rfl)).symm.trans h1_) (by decide),fun _=>qz1,fun _=>(by (with_reducible repeat (first|apply Kd.N_alloc|apply Kd.N_drewN|apply Kd.N_drew));exact Kd.N_mono HO187.out (fun _ hk=>qz123)),fun _=>(by (with_reducible repeat (first|apply Kd.R_alloc|apply Kd.R_drewN|apply Kd.R_drew));exact HO190.out),Q_X3_,fun h0_=>absurd ((hoff 11 (by kernel_rfl)).symm.trans h0_) (by decide)⟩
    refine steps_cons ?_ ?_
    ·rintro b a w' ⟨v172,adz_v172,v178,v182,v186,v189,m3_,m11_,ha,Q_HI0,Q_HK,Q_HB,Q_HO173,Q_HA_HO173,Q_HI0_e2,Q_HO179,Q_HI0_e6,Q_HO183,Q_HI0_e8,Q_HO187,Q_HO190,Q_X3_,Q_X11_⟩ hb_ hon hoff
     refine ⟨_,rfl,fun K hK=>?_⟩
     have e13:a.tmps[13]?=some (v189):=by rw [ha];exact putSel_on (e:=(10,13,v189)) 7 rfl rfl (hon 10 (by kernel_rfl)) rfl
     replace ha:=Aside0.mk ha
     have HK:=Aside0.mk Q_HK
     have HB:=Aside0.mk Q_HB
     have HO173:=Aside0.mk (Q_HO173 (hon 0 (by kernel_rfl)))
     have HA_HO173:=Aside0.mk (Q_HA_HO173 (hon 0 (by kernel_rfl)))
     have HI0:=Aside0.mk (Q_HI0_e8 (hon 8 (by kernel_rfl)))
     have HO187:=Aside0.mk (Q_HO187 (hon 9 (by kernel_rfl)))
     have HO190:=Aside0.mk (Q_HO190 (hon 10 (by kernel_rfl)))
     refine value_ (w1:=w') (v:=v189) (by rfl) rfl ?_ ?_
     ·go_simp
      (try simp only [i64_w])
      try rfl
     refine hK.out _ _ ⟨v172,adz_v172,v178,v182,v186,v189,m3_,(v189),(by rw [ha.out];exact putSel_upk 8 hb_ rfl rfl rfl),fun h0_=>absurd ((hon 2 (by kernel_rfl)).symm.trans h0_) (by decide),Q_HK,Q_HB,Q_HO173,Q_HA_HO173,fun _ h1_=>absurd ((hon 6 (by kernel_rfl)).symm.trans h1_) (by decide),fun _ h1_=>absurd ((hon 9 (by kernel_rfl)).symm.trans h1_) (by decide),fun _ h1_=>absurd ((hon 8 (by kernel_rfl)).symm.trans h1_) (by decide),fun _ h1_=>absurd ((hon 9 (by kernel_rfl)).symm.trans h1_) (by decide),Q_HI0_e8,Q_HO187,Q_HO190,Q_X3_,fun _=>rfl⟩
    exact steps_nil
   rintro b a w21 hall ⟨v172,adz_v172,v178,v182,v186,v189,m3_,m11_,ha,Q_HI0,Q_HK,Q_HB,Q_HO173,Q_HA_HO173,Q_HI0_e2,Q_HO179,Q_HI0_e6,Q_HO183,Q_HI0_e8,Q_HO187,Q_HO190,Q_X3_,Q_X11_⟩
   clear HB HI0 HK
   have hb0_:=hall 0 (by kernel_rfl)
   have hb2_:=hall 2 (by kernel_rfl)
   have hb3_:=hall 3 (by kernel_rfl)
   have hb4_:=hall 4 (by kernel_rfl)
   have hb6_:=hall 6 (by kernel_rfl)
   have hb8_:=hall 8 (by kernel_rfl)
   have hb9_:=hall 9 (by kernel_rfl)
   have hb10_:=hall 10 (by kernel_rfl)
   have hb11_:=hall 11 (by kernel_rfl)
   subst ha
   obtain rfl:=Q_X3_ hb3_
   obtain rfl:=Q_X11_ hb11_
   simp only [putSel,hb0_,hb2_,hb3_,hb4_,hb6_,hb8_,hb9_,hb10_,hb11_,if_true,Act.put,List.setIfInBounds_toArray,List.set_cons_zero,List.set_cons_succ]
   clear Q_HI0
   have HK:=Aside0.mk Q_HK
   clear Q_HK
   have HB:=Aside0.mk Q_HB
   clear Q_HB
   have HO173:=Aside0.mk (Q_HO173 hb0_)
   clear Q_HO173
   have HA_HO173:=Aside0.mk (Q_HA_HO173 hb0_)
   clear Q_HA_HO173 Q_HI0_e2 Q_HO179 Q_HI0_e6 Q_HO183
   have HI0:=Aside0.mk (Q_HI0_e8 hb8_)
   clear Q_HI0_e8
   have HO187:=Aside0.mk (Q_HO187 hb9_)
   clear Q_HO187
   have HO190:=Aside0.mk (Q_HO190 hb10_)
   clear Q_HO190 hall hb0_ hb2_ hb3_ hb4_ hb6_ hb8_ hb9_ hb10_ hb11_
   obtain ⟨co22,eo22⟩:=HA_HO173.out
   clear HA_HO173
   subst eo22
   try go_wp2
   go_ret
   exact ⟨_,qz9,by (with_reducible repeat (first|apply Kd.R_alloc|apply Kd.R_drewN|apply Kd.R_drew));exact HO190.out,qz1,qz5,qz2⟩
  ·rw [if_neg c4] at H
   exact absurd H (by simp)
 ·rw [if_neg c3] at H
  exact absurd H (by simp)

/-! ### spec_l20Rd_odd: function 67 -/
def spec_l20Rd_odd.f (k:Nat) (s0_0:List Int) (s0_1:Int) (a1:Int):Option (Bool × Int):=(spec_l20Rd_pick.f k s0_0 s0_1 a1).bind fun bt191=>(some ((bt191.1 == (wrap64 (a1 - 1))),bt191.2))
set_option maxHeartbeats 8000000 in
set_option maxRecDepth 100000 in
theorem spec_l20Rd_odd.calls (k:Nat) (g:Nat) (s0_0:List Int) (s0_1:Int) (a1:Int) (r1:Bool) (r2:Int) (w0 w:World) (hI:IsS104 w0 w g s0_0 s0_1) (hB:Below w0.heap.size w0 w) (h:spec_l20Rd_odd.f k s0_0 s0_1 a1=some (r1,r2)) :
  Calls Tryd.prog 67 #[.pointer (some ⟨g,0,none⟩),.int .i64 a1] w fun e w'=>e = .returned (.bool r1)∧IsS104 w0 w' g s0_0 r2∧Below w0.heap.size w0 w'∧KeepBut w w' g none:=by
 have HI0:=Aside0.mk hI
 have HK:=Aside0.mk (KeepBut.refl w g none)
 have HL:=Aside0.mk hB.size
 clear hI
 have HW0:=Aside0.mk hB.size
 have HB:=Aside0.mk hB
 clear hB
 have H:((spec_l20Rd_pick.f k s0_0 s0_1 a1).bind fun bt191=>(some ((bt191.1 == (wrap64 (a1 - 1))),bt191.2)))=some (r1,r2):=h
 clear h
 replace H:=Option.bind_eq_some_iff.mp H
 obtain ⟨⟨t191,t192⟩,A30,H⟩:=H
 try dsimp only at H
 have A3:=Aside0.mk A30
 clear A30
 simp only [Option.some.injEq,Prod.mk.injEq] at H
 obtain ⟨rfl,rfl⟩:=H
 go_enter Tryd.func67,Tryd.ntmps67
 go_wp2_with (first|((with_reducible refine gate_callee (f:=64) rfl ?_);refine goesL_ (some 7) rfl rfl Tryd.func64 (by kernel_rfl) rfl #[.pointer (some ⟨g,0,none⟩),.int .i64 a1] rfl qz4 ?_;(with_reducible refine (spec_l20Rd_pick.calls k g s0_0 s0_1 a1 t191 t192 w0 _ ?side1 ?side2 A3.out).mono ?_);(case side1=>exact qz1);(case side2=>exact qz5);rintro e w4 ⟨rfl,hi,hb,hk⟩;refine ⟨_,rfl,?_⟩;have n0_:=Aside0.mk (KeepBut.trans qz2 hk (.inl rfl));have n1_:=Aside0.mk (hb);have n2_:=Aside0.mk (hi);clear HK HB HI0;have HK:=n0_;have HB:=n1_;have HI0:=n2_;clear n0_ n1_ n2_;(try clear hb);(try clear hb2);(try clear hk);(try clear hi)))
 go_ret
 exact ⟨qz9,qz1,qz5,qz2⟩

end Go.Proofs.YtepkgjcobocbpaaDoor.P
