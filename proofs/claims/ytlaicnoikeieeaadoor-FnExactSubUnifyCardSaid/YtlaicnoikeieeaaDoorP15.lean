/- Contracts of functions of the program: each as a Lean function, and that its call does what that says; printed by cprint.py (this session) over print.py of the kit. Conditions: the hypotheses of each theorem. -/
import Derived.Test.YtlaicnoikeieeaaDoorVZ
import Derived.Test.YtlaicnoikeieeaaDoorP0
import Derived.Test.YtlaicnoikeieeaaDoorP14
namespace Go.Proofs.YtlaicnoikeieeaaDoor.P
open Go.RowKit Go.Proofs.YtlaicnoikeieeaaDoorW.PrintWords Go.Proofs.YtlaicnoikeieeaaDoorW.PrintLast Go.Proofs.YtlaicnoikeieeaaDoorW.PrintMore
attribute [local go_sem] max2_int min2_int max_two min_two max_three min_three max_four min_four   -- for this text's walks alone
set_option linter.unusedVariables false
set_option linter.unusedSimpArgs false

/-! ### laws_eqSubBindS: function 27 -/
def laws_eqSubBindS.l0:Nat→List (S30)→List (S30)→Int→Option (Bool)
 | 0,_,_,_=>none
 | k+1,x0,x1,x5=>if x5<(x0.length:Int) then (if 0≤x5 then (if x5<(x1.length:Int) then ((laws_eqSubBind.f k ((rd_T30 x0 x5).f0) ((rd_T30 x0 x5).f1) ((rd_T30 x1 x5).f0) ((rd_T30 x1 x5).f1)).bind fun t144=>(if t144=true then (laws_eqSubBindS.l0 k x0 x1 (wrap64 (x5+1))) else (some false))) else (none)) else (none)) else (some true)
def laws_eqSubBindS.f (k:Nat) (l0:List (S30)) (l1:List (S30)):Option (Bool):=if (l0.length:Int)=(l1.length:Int) then (laws_eqSubBindS.l0 k l0 l1 0) else (some false)
def laws_eqSubBindS.T6:Bool × List (List Nat × List Nat):=(true,[([],[]),([],[]),([0,1],[0,1]),([2],[2]),([],[]),([],[]),([4,5],[4,5]),([6],[6]),([3,7],[3,7]),([8],[8])])
def laws_eqSubBindS.B6:List Nat:=[0,0,3,7,0,0,48,112,255,511]
theorem laws_eqSubBindS.tab6:rtab .any (opsOf Tryd.f27 6)=laws_eqSubBindS.T6:=by kernel_rfl
theorem laws_eqSubBindS.bits6:waitsOk laws_eqSubBindS.T6.2 laws_eqSubBindS.B6=true:=by kernel_rfl
set_option maxHeartbeats 8000000 in
set_option maxRecDepth 100000 in
theorem laws_eqSubBindS.calls (k:Nat) (A0:Option Addr) (c0:Nat) (l0:List (S30)) (A1:Option Addr) (c1:Nat) (l1:List (S30)) (r:Bool) (w:World) (hr0:Kd.C k30 w A0 l0.length l0) (hc0:l0.length≤c0) (hr1:Kd.C k30 w A1 l1.length l1) (hc1:l1.length≤c1) (h:laws_eqSubBindS.f k l0 l1=some r) :
  Calls Tryd.prog 27 #[.slice A0 l0.length c0,.slice A1 l1.length c1] w fun e w'=>e = .returned (.bool r)∧Below w.heap.size w w':=by
 have hu30:=Tryd.underlying30
 have HR0:=Aside0.mk hr0
 have HC0:=Aside0.mk hc0
 clear hr0 hc0
 have HR1:=Aside0.mk hr1
 have HC1:=Aside0.mk hc1
 clear hr1 hc1
 have HB:=Aside0.mk (Below.refl w.heap.size w)
 have H:(if (l0.length:Int)=(l1.length:Int) then (laws_eqSubBindS.l0 k l0 l1 0) else (some false))=some r:=h
 clear h
 by_cases c3:(l0.length:Int)=(l1.length:Int)
 ·rw [if_pos c3] at H
  have c3b0:((l0.length:Int) == (l1.length:Int))=true:=beq_iff_eq.mpr c3
  have c3b1:((l0.length:Int) != (l1.length:Int))=false:=bne_eq_false_iff_eq.mpr c3
  have c3b2:(l0.length == l1.length)=true:=qz76
  clear c3
  have H':=Aside0.mk H
  clear H
  go_enter Tryd.func27,Tryd.ntmps27
  go_wp2
  go_loopg [5] k (fun kq v5 w'=>∃ (x5_1:Int),v5 = .int .i64 x5_1∧Aside0 (laws_eqSubBindS.l0 kq l0 l1 x5_1=some r)∧Aside0 (kq≤k)∧Aside0 (Below w.heap.size w w'))
  case atStart=>exact ⟨(0),qz6,H',⟨Nat.le_refl _⟩,⟨qz2⟩⟩
  case round=>
   clear H'
   try clear c1
   try clear c2
   try clear p2
   try clear c3
   try clear c3b0
   try clear c3b1
   try clear c3b2
   obtain ⟨x5_1,rfl,HA,HK1,HB⟩:=hrel
   cases gk with
   | zero=>exact absurd HA.out (by simp [laws_eqSubBindS.l0])
   | succ k1=>
    have H:=HA.out
    clear HA
    simp only [laws_eqSubBindS.l0] at H
    by_cases c4:x5_1<(l0.length:Int)
    ·rw [if_pos c4] at H
     have c4b0:decide (x5_1<(l0.length:Int))=true:=decide_eq_true c4
     clear c4
     by_cases c5:0≤x5_1
     ·rw [if_pos c5] at H
      have c5b0:decide (0≤x5_1)=true:=decide_eq_true c5
      clear c5
      by_cases c6:x5_1<(l1.length:Int)
      ·rw [if_pos c6] at H
       have c6b0:decide (x5_1<(l1.length:Int))=true:=decide_eq_true c6
       clear c6
       replace H:=Option.bind_eq_some_iff.mp H
       obtain ⟨t144,A70,H⟩:=H
       try dsimp only at H
       have A7:=Aside0.mk A70
       clear A70
       by_cases c8:t144=true
       ·subst c8
        have H1:(laws_eqSubBindS.l0 k1 l0 l1 (wrap64 (x5_1+1)))=some r:=qz32
        clear H
        have H:=H1
        clear H1
        have H':=Aside0.mk H
        clear H
        try go_wp2
        have n0_:=Aside0.mk (below_drew1 HB.out)
        clear HB
        have HB:=n0_
        clear n0_
        have p142:0≤(x5_1:Int):=of_decide_eq_true qz3
        have q142:x5_1<(l0.length:Int):=of_decide_eq_true qz3
        obtain ⟨ad142,A142_1,c142_1,e142,hx142_0,hx142_1,hl142_1,hi142_1⟩:=at_T30 HR0.out x5_1 p142 q142
        have hw142_1:=hx142_1
        have hw142_0:=hx142_0
        cases e142
        replace hx142_0:=(HB.out.cell (World.block_lt_of_cell? w _ hx142_0)).trans hx142_0
        replace hx142_1:=(HB.out.cell (World.block_lt_of_cell? w _ hx142_1)).trans hx142_1
        have HR142_1:=Aside0.mk hi142_1
        have HC142_1:=Aside0.mk hl142_1
        clear hi142_1 hl142_1
        replace p142:=eq_true p142
        replace q142:=eq_true q142
        have p143:0≤(x5_1:Int):=of_decide_eq_true qz3
        have q143:x5_1<(l1.length:Int):=of_decide_eq_true qz3
        obtain ⟨ad143,A143_1,c143_1,e143,hx143_0,hx143_1,hl143_1,hi143_1⟩:=at_T30 HR1.out x5_1 p143 q143
        have hw143_1:=hx143_1
        have hw143_0:=hx143_0
        cases e143
        replace hx143_0:=(HB.out.cell (World.block_lt_of_cell? w _ hx143_0)).trans hx143_0
        replace hx143_1:=(HB.out.cell (World.block_lt_of_cell? w _ hx143_1)).trans hx143_1
        have HR143_1:=Aside0.mk hi143_1
        have HC143_1:=Aside0.mk hl143_1
        clear hi143_1 hl143_1
        replace p143:=eq_true p143
        replace q143:=eq_true q143
        refine start_ (n:=10) (S:=fun w'=>w'.cell? (ad142.add ((x5_1).toNat * 2))=some (.int .i64 ((rd_T30 l0 x5_1).f0))∧w'.cell? ⟨(ad142.add ((x5_1).toNat * 2)).block,(ad142.add ((x5_1).toNat * 2)).off+1,none⟩=some (.slice A142_1 ((rd_T30 l0 x5_1).f1).length c142_1)∧w'.cell? (ad143.add ((x5_1).toNat * 2))=some (.int .i64 ((rd_T30 l1 x5_1).f0))∧w'.cell? ⟨(ad143.add ((x5_1).toNat * 2)).block,(ad143.add ((x5_1).toNat * 2)).off+1,none⟩=some (.slice A143_1 ((rd_T30 l1 x5_1).f1).length c143_1)) (ds:=[]) #[false,false,false,false,false,false,false,false,false,false] (by kernel_rfl) rfl rfl ⟨((HB.out.cell (World.block_lt_of_cell? w _ hw142_0)).trans hw142_0),((HB.out.cell (World.block_lt_of_cell? w _ hw142_1)).trans hw142_1),((HB.out.cell (World.block_lt_of_cell? w _ hw143_0)).trans hw143_0),((HB.out.cell (World.block_lt_of_cell? w _ hw143_1)).trans hw143_1)⟩ (fun hHeld=>?_);refine with_tabW laws_eqSubBindS.tab6 laws_eqSubBindS.bits6 (fun HT_ HW_=>?_)
        generalize wr.drew=w9 at HB HR142_1 HR143_1 hx142_0 hx142_1 hx143_0 hx143_1 hHeld ⊢
        refine pure_ (i:=0) (N:=some 17) (v:=?_) (a':=?_) #[true,false,false,false,false,false,false,false,false,false] rfl rfl (any_of HT_.out (by kernel_rfl)) (fun _ _ _ h=>h) (Or.inl ⟨by rfl,?_⟩) ?_ ?_
        rotate_left
        ·intro w'
         go_simp
         with_reducible rfl
        rotate_left
        ·simp only [Act.put,List.setIfInBounds_toArray,List.set_cons_zero,List.set_cons_succ,i64_w,i32_w]
         rfl
        refine pure_ (i:=1) (N:=some 18) (v:=?_) (a':=?_) #[true,true,false,false,false,false,false,false,false,false] rfl rfl (any_of HT_.out (by kernel_rfl)) (fun _ _ _ h=>h) (Or.inl ⟨by rfl,?_⟩) ?_ ?_
        rotate_left
        ·intro w'
         go_simp
         with_reducible rfl
        rotate_left
        ·simp only [Act.put,List.setIfInBounds_toArray,List.set_cons_zero,List.set_cons_succ,i64_w,i32_w]
         rfl
        refine pure_ (i:=2) (N:=some 19) (v:=?_) (a':=?_) #[true,true,true,false,false,false,false,false,false,false] rfl rfl (any_of HT_.out (by kernel_rfl)) (fun _ _ _ h=>h) (Or.inl ⟨by rfl,?_⟩) ?_ ?_
        rotate_left
        ·intro w'
         go_simp
         with_reducible rfl
        rotate_left
        ·simp only [Act.put,List.setIfInBounds_toArray,List.set_cons_zero,List.set_cons_succ,i64_w,i32_w]
         rfl
        refine pure_ (i:=4) (N:=some 21) (v:=?_) (a':=?_) #[true,true,true,false,true,false,false,false,false,false] rfl rfl (any_of HT_.out (by kernel_rfl)) (fun _ _ _ h=>h) (Or.inl ⟨by rfl,?_⟩) ?_ ?_
        rotate_left
        ·intro w'
         go_simp
         with_reducible rfl
        rotate_left
        ·simp only [Act.put,List.setIfInBounds_toArray,List.set_cons_zero,List.set_cons_succ,i64_w,i32_w]
         rfl
        refine pure_ (i:=5) (N:=some 22) (v:=?_) (a':=?_) #[true,true,true,false,true,true,false,false,false,false] rfl rfl (any_of HT_.out (by kernel_rfl)) (fun _ _ _ h=>h) (Or.inl ⟨by rfl,?_⟩) ?_ ?_
        rotate_left
        ·intro w'
         go_simp
         with_reducible rfl
        rotate_left
        ·simp only [Act.put,List.setIfInBounds_toArray,List.set_cons_zero,List.set_cons_succ,i64_w,i32_w]
         rfl
        refine pure_ (i:=6) (N:=some 23) (v:=?_) (a':=?_) #[true,true,true,false,true,true,true,false,false,false] rfl rfl (any_of HT_.out (by kernel_rfl)) (fun _ _ _ h=>h) (Or.inl ⟨by rfl,?_⟩) ?_ ?_
        rotate_left
        ·intro w'
         go_simp
         with_reducible rfl
        rotate_left
        ·simp only [Act.put,List.setIfInBounds_toArray,List.set_cons_zero,List.set_cons_succ,i64_w,i32_w]
         rfl
        refine take_ (i:=3) (N:=some 20) (v:=?_) (a':=?_) #[true,true,true,true,true,true,true,false,false,false] rfl rfl (take_ofW HT_.out HW_.out (by kernel_rfl)) (fun _ _ _ h=>h) (Or.inl ⟨by rfl,?_⟩) hHeld ?_ ?_
        rotate_left
        ·rintro w' ⟨s0,s1,s2,s3⟩
         go_simp
         with_reducible rfl
        rotate_left
        ·simp only [Act.put,List.setIfInBounds_toArray,List.set_cons_zero,List.set_cons_succ,i64_w,i32_w]
         rfl
        refine take_ (i:=7) (N:=some 24) (v:=?_) (a':=?_) #[true,true,true,true,true,true,true,true,false,false] rfl rfl (take_ofW HT_.out HW_.out (by kernel_rfl)) (fun _ _ _ h=>h) (Or.inl ⟨by rfl,?_⟩) hHeld ?_ ?_
        rotate_left
        ·rintro w' ⟨s0,s1,s2,s3⟩
         go_simp
         with_reducible rfl
        rotate_left
        ·simp only [Act.put,List.setIfInBounds_toArray,List.set_cons_zero,List.set_cons_succ,i64_w,i32_w]
         rfl
        refine one_ (i:=8) (N:=some 25) #[true,true,true,true,true,true,true,true,true,false] rfl rfl (one_of HT_.out (by kernel_rfl)) (by decide) (fun K hK=>?_)
        refine goes_ Tryd.func65 (by kernel_rfl) rfl #[.agg #[.int .i64 ((rd_T30 l0 x5_1).f0),.slice A142_1 ((rd_T30 l0 x5_1).f1).length c142_1],.agg #[.int .i64 ((rd_T30 l1 x5_1).f0),.slice A143_1 ((rd_T30 l1 x5_1).f1).length c143_1]] (by rfl) rfl rfl qz8 ?_
        with_reducible refine (laws_eqSubBind.calls k1 ((rd_T30 l0 x5_1).f0) _ _ ((rd_T30 l0 x5_1).f1) ((rd_T30 l1 x5_1).f0) _ _ ((rd_T30 l1 x5_1).f1) true _ ?side1 ?side2 ?side3 ?side4 A7.out).mono ?_
        (case side1=>exact qz58)
        (case side2=>exact HC142_1.out)
        (case side3=>exact qz57)
        (case side4=>exact HC143_1.out)
        rintro e w10 ⟨rfl,hb⟩
        refine ⟨_,rfl,?_⟩
        have n0_:=Aside0.mk (below_step qz1 hb)
        clear HB
        have HB:=n0_
        clear n0_
        (try clear hb)
        (try clear hb2)
        (try clear hk)
        (try clear hi)
        refine hK.out _ _ ⟨((HB.out.cell (World.block_lt_of_cell? w _ hw142_0)).trans hw142_0),((HB.out.cell (World.block_lt_of_cell? w _ hw142_1)).trans hw142_1),((HB.out.cell (World.block_lt_of_cell? w _ hw143_0)).trans hw143_0),((HB.out.cell (World.block_lt_of_cell? w _ hw143_1)).trans hw143_1)⟩ (fun hHeld=>?_)
        clear hK K
        refine norm_ (a':=?_) ?_ ?_
        rotate_left
        ·show Act.put _ (some 25) _=_
         simp only [Act.put,List.setIfInBounds_toArray,List.set_cons_zero,List.set_cons_succ,i64_w,i32_w]
         rfl
        refine pure_ (i:=9) (N:=some 26) (v:=?_) (a':=?_) #[true,true,true,true,true,true,true,true,true,true] rfl rfl (any_of HT_.out (by kernel_rfl)) (fun _ _ _ h=>h) (Or.inl ⟨by rfl,?_⟩) ?_ ?_
        rotate_left
        ·intro w'
         go_simp
         with_reducible rfl
        rotate_left
        ·simp only [Act.put,List.setIfInBounds_toArray,List.set_cons_zero,List.set_cons_succ,i64_w,i32_w]
         rfl
        refine done_ (done_of HT_.out (by kernel_rfl)) ?_
        try go_wp2
        go_roundg k1
        case measure=>have:=HK1.out;omega
        case rel=>exact ⟨(wrap64 (x5_1+1)),qz6,H',⟨by have:=HK1.out;omega⟩,⟨qz2⟩⟩
       ·replace c8:=Bool.eq_false_iff.mpr c8
        subst c8
        have H1:(some false)=some r:=qz15
        clear H
        have H:=H1
        clear H1
        obtain rfl:=Option.some.inj H
        try go_wp2
        have n0_:=Aside0.mk (below_drew1 HB.out)
        clear HB
        have HB:=n0_
        clear n0_
        have p142:0≤(x5_1:Int):=of_decide_eq_true qz3
        have q142:x5_1<(l0.length:Int):=of_decide_eq_true qz3
        obtain ⟨ad142,A142_1,c142_1,e142,hx142_0,hx142_1,hl142_1,hi142_1⟩:=at_T30 HR0.out x5_1 p142 q142
        have hw142_1:=hx142_1
        have hw142_0:=hx142_0
        cases e142
        replace hx142_0:=(HB.out.cell (World.block_lt_of_cell? w _ hx142_0)).trans hx142_0
        replace hx142_1:=(HB.out.cell (World.block_lt_of_cell? w _ hx142_1)).trans hx142_1
        have HR142_1:=Aside0.mk hi142_1
        have HC142_1:=Aside0.mk hl142_1
        clear hi142_1 hl142_1
        replace p142:=eq_true p142
        replace q142:=eq_true q142
        have p143:0≤(x5_1:Int):=of_decide_eq_true qz3
        have q143:x5_1<(l1.length:Int):=of_decide_eq_true qz3
        obtain ⟨ad143,A143_1,c143_1,e143,hx143_0,hx143_1,hl143_1,hi143_1⟩:=at_T30 HR1.out x5_1 p143 q143
        have hw143_1:=hx143_1
        have hw143_0:=hx143_0
        cases e143
        replace hx143_0:=(HB.out.cell (World.block_lt_of_cell? w _ hx143_0)).trans hx143_0
        replace hx143_1:=(HB.out.cell (World.block_lt_of_cell? w _ hx143_1)).trans hx143_1
        have HR143_1:=Aside0.mk hi143_1
        have HC143_1:=Aside0.mk hl143_1
        clear hi143_1 hl143_1
        replace p143:=eq_true p143
        replace q143:=eq_true q143
        refine start_ (n:=10) (S:=fun w'=>w'.cell? (ad142.add ((x5_1).toNat * 2))=some (.int .i64 ((rd_T30 l0 x5_1).f0))∧w'.cell? ⟨(ad142.add ((x5_1).toNat * 2)).block,(ad142.add ((x5_1).toNat * 2)).off+1,none⟩=some (.slice A142_1 ((rd_T30 l0 x5_1).f1).length c142_1)∧w'.cell? (ad143.add ((x5_1).toNat * 2))=some (.int .i64 ((rd_T30 l1 x5_1).f0))∧w'.cell? ⟨(ad143.add ((x5_1).toNat * 2)).block,(ad143.add ((x5_1).toNat * 2)).off+1,none⟩=some (.slice A143_1 ((rd_T30 l1 x5_1).f1).length c143_1)) (ds:=[]) #[false,false,false,false,false,false,false,false,false,false] (by kernel_rfl) rfl rfl ⟨((HB.out.cell (World.block_lt_of_cell? w _ hw142_0)).trans hw142_0),((HB.out.cell (World.block_lt_of_cell? w _ hw142_1)).trans hw142_1),((HB.out.cell (World.block_lt_of_cell? w _ hw143_0)).trans hw143_0),((HB.out.cell (World.block_lt_of_cell? w _ hw143_1)).trans hw143_1)⟩ (fun hHeld=>?_);refine with_tabW laws_eqSubBindS.tab6 laws_eqSubBindS.bits6 (fun HT_ HW_=>?_)
        generalize wr.drew=w11 at HB HR142_1 HR143_1 hx142_0 hx142_1 hx143_0 hx143_1 hHeld ⊢
        refine pure_ (i:=0) (N:=some 17) (v:=?_) (a':=?_) #[true,false,false,false,false,false,false,false,false,false] rfl rfl (any_of HT_.out (by kernel_rfl)) (fun _ _ _ h=>h) (Or.inl ⟨by rfl,?_⟩) ?_ ?_
        rotate_left
        ·intro w'
         go_simp
         with_reducible rfl
        rotate_left
        ·simp only [Act.put,List.setIfInBounds_toArray,List.set_cons_zero,List.set_cons_succ,i64_w,i32_w]
         rfl
        refine pure_ (i:=1) (N:=some 18) (v:=?_) (a':=?_) #[true,true,false,false,false,false,false,false,false,false] rfl rfl (any_of HT_.out (by kernel_rfl)) (fun _ _ _ h=>h) (Or.inl ⟨by rfl,?_⟩) ?_ ?_
        rotate_left
        ·intro w'
         go_simp
         with_reducible rfl
        rotate_left
        ·simp only [Act.put,List.setIfInBounds_toArray,List.set_cons_zero,List.set_cons_succ,i64_w,i32_w]
         rfl
        refine pure_ (i:=2) (N:=some 19) (v:=?_) (a':=?_) #[true,true,true,false,false,false,false,false,false,false] rfl rfl (any_of HT_.out (by kernel_rfl)) (fun _ _ _ h=>h) (Or.inl ⟨by rfl,?_⟩) ?_ ?_
        rotate_left
        ·intro w'
         go_simp
         with_reducible rfl
        rotate_left
        ·simp only [Act.put,List.setIfInBounds_toArray,List.set_cons_zero,List.set_cons_succ,i64_w,i32_w]
         rfl
        refine pure_ (i:=4) (N:=some 21) (v:=?_) (a':=?_) #[true,true,true,false,true,false,false,false,false,false] rfl rfl (any_of HT_.out (by kernel_rfl)) (fun _ _ _ h=>h) (Or.inl ⟨by rfl,?_⟩) ?_ ?_
        rotate_left
        ·intro w'
         go_simp
         with_reducible rfl
        rotate_left
        ·simp only [Act.put,List.setIfInBounds_toArray,List.set_cons_zero,List.set_cons_succ,i64_w,i32_w]
         rfl
        refine pure_ (i:=5) (N:=some 22) (v:=?_) (a':=?_) #[true,true,true,false,true,true,false,false,false,false] rfl rfl (any_of HT_.out (by kernel_rfl)) (fun _ _ _ h=>h) (Or.inl ⟨by rfl,?_⟩) ?_ ?_
        rotate_left
        ·intro w'
         go_simp
         with_reducible rfl
        rotate_left
        ·simp only [Act.put,List.setIfInBounds_toArray,List.set_cons_zero,List.set_cons_succ,i64_w,i32_w]
         rfl
        refine pure_ (i:=6) (N:=some 23) (v:=?_) (a':=?_) #[true,true,true,false,true,true,true,false,false,false] rfl rfl (any_of HT_.out (by kernel_rfl)) (fun _ _ _ h=>h) (Or.inl ⟨by rfl,?_⟩) ?_ ?_
        rotate_left
        ·intro w'
         go_simp
         with_reducible rfl
        rotate_left
        ·simp only [Act.put,List.setIfInBounds_toArray,List.set_cons_zero,List.set_cons_succ,i64_w,i32_w]
         rfl
        refine take_ (i:=3) (N:=some 20) (v:=?_) (a':=?_) #[true,true,true,true,true,true,true,false,false,false] rfl rfl (take_ofW HT_.out HW_.out (by kernel_rfl)) (fun _ _ _ h=>h) (Or.inl ⟨by rfl,?_⟩) hHeld ?_ ?_
        rotate_left
        ·rintro w' ⟨s0,s1,s2,s3⟩
         go_simp
         with_reducible rfl
        rotate_left
        ·simp only [Act.put,List.setIfInBounds_toArray,List.set_cons_zero,List.set_cons_succ,i64_w,i32_w]
         rfl
        refine take_ (i:=7) (N:=some 24) (v:=?_) (a':=?_) #[true,true,true,true,true,true,true,true,false,false] rfl rfl (take_ofW HT_.out HW_.out (by kernel_rfl)) (fun _ _ _ h=>h) (Or.inl ⟨by rfl,?_⟩) hHeld ?_ ?_
        rotate_left
        ·rintro w' ⟨s0,s1,s2,s3⟩
         go_simp
         with_reducible rfl
        rotate_left
        ·simp only [Act.put,List.setIfInBounds_toArray,List.set_cons_zero,List.set_cons_succ,i64_w,i32_w]
         rfl
        refine one_ (i:=8) (N:=some 25) #[true,true,true,true,true,true,true,true,true,false] rfl rfl (one_of HT_.out (by kernel_rfl)) (by decide) (fun K hK=>?_)
        refine goes_ Tryd.func65 (by kernel_rfl) rfl #[.agg #[.int .i64 ((rd_T30 l0 x5_1).f0),.slice A142_1 ((rd_T30 l0 x5_1).f1).length c142_1],.agg #[.int .i64 ((rd_T30 l1 x5_1).f0),.slice A143_1 ((rd_T30 l1 x5_1).f1).length c143_1]] (by rfl) rfl rfl qz8 ?_
        with_reducible refine (laws_eqSubBind.calls k1 ((rd_T30 l0 x5_1).f0) _ _ ((rd_T30 l0 x5_1).f1) ((rd_T30 l1 x5_1).f0) _ _ ((rd_T30 l1 x5_1).f1) false _ ?side1 ?side2 ?side3 ?side4 A7.out).mono ?_
        (case side1=>exact qz58)
        (case side2=>exact HC142_1.out)
        (case side3=>exact qz57)
        (case side4=>exact HC143_1.out)
        rintro e w12 ⟨rfl,hb⟩
        refine ⟨_,rfl,?_⟩
        have n0_:=Aside0.mk (below_step qz1 hb)
        clear HB
        have HB:=n0_
        clear n0_
        (try clear hb)
        (try clear hb2)
        (try clear hk)
        (try clear hi)
        refine hK.out _ _ ⟨((HB.out.cell (World.block_lt_of_cell? w _ hw142_0)).trans hw142_0),((HB.out.cell (World.block_lt_of_cell? w _ hw142_1)).trans hw142_1),((HB.out.cell (World.block_lt_of_cell? w _ hw143_0)).trans hw143_0),((HB.out.cell (World.block_lt_of_cell? w _ hw143_1)).trans hw143_1)⟩ (fun hHeld=>?_)
        clear hK K
        refine norm_ (a':=?_) ?_ ?_
        rotate_left
        ·show Act.put _ (some 25) _=_
         simp only [Act.put,List.setIfInBounds_toArray,List.set_cons_zero,List.set_cons_succ,i64_w,i32_w]
         rfl
        refine pure_ (i:=9) (N:=some 26) (v:=?_) (a':=?_) #[true,true,true,true,true,true,true,true,true,true] rfl rfl (any_of HT_.out (by kernel_rfl)) (fun _ _ _ h=>h) (Or.inl ⟨by rfl,?_⟩) ?_ ?_
        rotate_left
        ·intro w'
         go_simp
         with_reducible rfl
        rotate_left
        ·simp only [Act.put,List.setIfInBounds_toArray,List.set_cons_zero,List.set_cons_succ,i64_w,i32_w]
         rfl
        refine done_ (done_of HT_.out (by kernel_rfl)) ?_
        try go_wp2
        go_ret
        exact ⟨qz4,qz2⟩
      ·rw [if_neg c6] at H
       exact absurd H (by simp)
     ·rw [if_neg c5] at H
      exact absurd H (by simp)
    ·rw [if_neg c4] at H
     have c4b0:decide (x5_1<(l0.length:Int))=false:=decide_eq_false c4
     clear c4
     obtain rfl:=Option.some.inj H
     go_wp2
     go_ret
     exact ⟨qz4,qz2⟩
 ·rw [if_neg c3] at H
  have c3b0:((l0.length:Int) == (l1.length:Int))=false:=beq_eq_false_iff_ne.mpr c3
  have c3b1:((l0.length:Int) != (l1.length:Int))=true:=bne_iff_ne.mpr c3
  have c3b2:(l0.length == l1.length)=false:=qz76
  obtain rfl:=Option.some.inj H
  go_enter Tryd.func27,Tryd.ntmps27
  go_wp2
  go_ret
  exact ⟨qz4,qz2⟩

/-! ### laws_markText: function 77 -/
def laws_markText.l0:Nat→Int→ByteArray→Option (ByteArray)
 | 0,_,_=>none
 | k+1,x0,x3=>if x0 > 0 then ((some (([(wrap64 (48+(Int.tmod x0 10))) % 256]:List Int):List Int)).bind fun y192=>(if (strOfNums y192).size+x3.size≤9223372036854775807 then (laws_markText.l0 k (wrap64 (Int.tdiv x0 10)) ((strOfNums y192)++x3)) else (none))) else (if 1+x3.size≤9223372036854775807 then (some ((⟨#[109]⟩:ByteArray)++x3)) else (none))
def laws_markText.f (k:Nat) (a0:Int):Option (ByteArray):=if a0≤0 then (some (⟨#[109,48]⟩:ByteArray)) else (laws_markText.l0 k a0 (⟨#[]⟩:ByteArray))
set_option maxHeartbeats 8000000 in
set_option maxRecDepth 100000 in
theorem laws_markText.calls (k:Nat) (a0:Int) (r:ByteArray) (w:World) (h:laws_markText.f k a0=some r) :
  Calls Tryd.prog 77 #[.int .i64 a0] w fun e w'=>e = .returned (.string r)∧Below w.heap.size w w':=by
 have HB:=Aside0.mk (Below.refl w.heap.size w)
 have H:(if a0≤0 then (some (⟨#[109,48]⟩:ByteArray)) else (laws_markText.l0 k a0 (⟨#[]⟩:ByteArray)))=some r:=h
 clear h
 by_cases c2:a0≤0
 ·rw [if_pos c2] at H
  have c2b0:decide (a0≤0)=true:=decide_eq_true c2
  clear c2
  obtain rfl:=Option.some.inj H
  go_enter Tryd.func77,Tryd.ntmps77
  go_wp2
  go_ret
  exact ⟨qz4,qz2⟩
 ·rw [if_neg c2] at H
  have c2b0:decide (a0≤0)=false:=decide_eq_false c2
  clear c2
  have H':=Aside0.mk H
  clear H
  go_enter Tryd.func77,Tryd.ntmps77
  go_wp2
  go_loopg [0,3] k (fun kq v0 v3 w'=>∃ (x0_1:Int) (x3_1:ByteArray),v0 = .int .i64 x0_1∧v3 = .string x3_1∧Aside0 (laws_markText.l0 kq x0_1 x3_1=some r)∧Aside0 (kq≤k)∧Aside0 (Below w.heap.size w w'))
  case atStart=>exact ⟨(a0),((⟨#[]⟩:ByteArray)),qz6,qz6,H',⟨Nat.le_refl _⟩,⟨qz2⟩⟩
  case round=>
   clear H'
   try clear c2
   try clear c2b0
   try clear p2
   obtain ⟨x0_1,x3_1,rfl,rfl,HA,HK1,HB⟩:=hrel
   cases gk with
   | zero=>exact absurd HA.out (by simp [laws_markText.l0])
   | succ k1=>
    have H:=HA.out
    clear HA
    simp only [laws_markText.l0] at H
    by_cases c3:x0_1 > 0
    ·rw [if_pos c3] at H
     have c3b0:decide (0<x0_1)=true:=decide_eq_true c3
     clear c3
     obtain ⟨y192,hy192⟩:∃ y_:List Int,y_=(([(wrap64 (48+(Int.tmod x0_1 10))) % 256]:List Int)):=⟨_,rfl⟩
     replace H:(if (strOfNums y192).size+x3_1.size≤9223372036854775807 then (laws_markText.l0 k1 (wrap64 (Int.tdiv x0_1 10)) ((strOfNums y192)++x3_1)) else (none))=some r:=by first|(rw [hy192];exact H)|exact H
     have Ny192:=Aside0.mk hy192
     clear hy192
     by_cases c4:(strOfNums y192).size+x3_1.size≤9223372036854775807
     ·rw [if_pos c4] at H
      have c4b0:=eq_true c4
      have c4b1:decide ((strOfNums y192).size+x3_1.size≤9223372036854775807)=true:=decide_eq_true c4
      try have c4b2:(9223372036854775807<(strOfNums y192).size+x3_1.size)=False:=eq_false (Nat.not_lt.2 c4)
      have H':=Aside0.mk H
      clear H
      go_wp2_with (first|((with_reducible refine gate_dst (N:=12) rfl ?_);refine Kd.R_lit (Kd.int .u8) _ 5 ?hg (N:=12) ?hd (xs:=([(wrap64 (48+(Int.tmod x0_1 10))) % 256]:List Int)) (inner:=[.int .u8 ((wrap64 (48+(Int.tmod x0_1 10))) % 256)]) (ok:=fun _=>True) (okp:=fun _=>True) ?hr ?hp (fun _ hk=>hk) trivial (Below.refl _ _) (Nat.le_refl _) (by simp) ?_;(case hd=>rfl);(case hg=>rfl);(case hr=>first|(go_simp;done)|(go_simp;rfl));(case hp=>exact (Reps.one (show Kd.M (Kd.int .u8) _ _ _ ((wrap64 (48+(Int.tmod x0_1 10))) % 256) [.int .u8 ((wrap64 (48+(Int.tmod x0_1 10))) % 256)] from rfl) (Reps.none _ _)));intro v193 w5 ho6 hb hg_ hnew_;clear hg_ hnew_;(first|rw [← Ny192.out] at ho6|(simp only [Int.reduceToNat] at ho6;rw [← Ny192.out] at ho6));have n0_:=Aside0.mk (Kd.R_lower ho6 (below_size qz1));have n1_:=Aside0.mk (below_step qz1 hb);clear HB;have HO194:=n0_;have HB:=n1_;clear n0_ n1_ hb ho6;have hcv7:=own_string (P:=Tryd.prog) Tryd.underlying22 Tryd.underlying5 Tryd.underlying9 (Kd.own_of_R HO194.out)))
      go_roundg k1
      case measure=>have:=HK1.out;omega
      case rel=>exact ⟨(wrap64 (Int.tdiv x0_1 10)),((strOfNums y192)++x3_1),qz6,qz6,H',⟨by have:=HK1.out;omega⟩,⟨qz2⟩⟩
     ·rw [if_neg c4] at H
      exact absurd H (by simp)
    ·rw [if_neg c3] at H
     have c3b0:decide (0<x0_1)=false:=decide_eq_false c3
     clear c3
     by_cases c8:1+x3_1.size≤9223372036854775807
     ·rw [if_pos c8] at H
      have c8b0:=eq_true c8
      have c8b1:decide (1+x3_1.size≤9223372036854775807)=true:=decide_eq_true c8
      try have c8b2:(9223372036854775807<1+x3_1.size)=False:=eq_false (Nat.not_lt.2 c8)
      obtain rfl:=Option.some.inj H
      go_wp2
      go_ret
      exact ⟨qz4,qz2⟩
     ·rw [if_neg c8] at H
      exact absurd H (by simp)

/-! ### laws_markTrmCellS: function 39 -/
def laws_markTrmCellS.l0:Nat→List (S46)→Int→Int→Option (Int × (List (S46)))
 | 0,_,_,_=>none
 | k+1,x0,x1,x5=>if x5<(x0.length:Int) then (if 0≤x5 then ((some (x0.set (x5:Int).toNat (⟨x1,(rd_T46 x0 x5).f1,(rd_T46 x0 x5).f2⟩:S46):List (S46))).bind fun y195=>((some (y195.set (x5:Int).toNat (⟨(rd_T46 y195 x5).f0,wrap64 (x1+1),(rd_T46 y195 x5).f2⟩:S46):List (S46))).bind fun y196=>((laws_markText.f k (wrap64 ((wrap64 (x1+1))+1))).bind fun t197=>(laws_markTrmCellS.l0 k (y196.set (x5:Int).toNat (⟨(rd_T46 y196 x5).f0,(rd_T46 y196 x5).f1,t197⟩:S46)) (wrap64 ((wrap64 ((wrap64 (x1+1))+1))+1)) (wrap64 (x5+1)))))) else (none)) else (some (x1,x0))
def laws_markTrmCellS.f (k:Nat) (l0:List (S46)) (a1:Int):Option (Int × (List (S46))):=laws_markTrmCellS.l0 k l0 a1 0
set_option maxHeartbeats 8000000 in
set_option maxRecDepth 100000 in
theorem laws_markTrmCellS.calls (k:Nat) (P0_:Nat→Prop) (u9000_:Value) (l0:List (S46)) (a1:Int) (r1:Int) (r2:List (S46)) (w0 w:World) (hB:Below w0.heap.size w0 w) (ho0:Kd.R k46 46 w w0.heap.size P0_ u9000_ l0) (h:laws_markTrmCellS.f k l0 a1=some (r1,r2)) :
  Calls Tryd.prog 39 #[u9000_,.int .i64 a1] w fun e w'=>e = .returned (.int .i64 r1)∧Kd.R k46 46 w' w0.heap.size (fun k_=>(P0_ k_∨w.heap.size≤k_)) u9000_ r2∧Below w0.heap.size w0 w'∧Kept w w' (fun k_=>P0_ k_):=by
 have HO0:=Aside0.mk (show Kd.R k46 46 w w0.heap.size (fun k_=>(P0_ k_∨w.heap.size≤k_)) u9000_ l0 from Kd.R_mono ho0 (fun k_ hk=>(.inl hk)))
 have HK:=Aside0.mk (Kept.refl w (fun k_=>P0_ k_))
 have HW0:=Aside0.mk hB.size
 have HB:=Aside0.mk hB
 clear hB
 have H:(laws_markTrmCellS.l0 k l0 a1 0)=some (r1,r2):=h
 clear h
 have H':=Aside0.mk H
 clear H
 go_enter Tryd.func39,Tryd.ntmps39
 go_wp2
 go_loopg [1,5] k (fun kq v1 v5 w'=>∃ (x0_1:List (S46)) (x1_1:Int) (x5_1:Int),v1 = .int .i64 x1_1∧v5 = .int .i64 x5_1∧Aside0 (laws_markTrmCellS.l0 kq x0_1 x1_1 x5_1=some (r1,r2))∧Aside0 (kq≤k)∧Aside0 (Kd.R k46 46 w' w0.heap.size (fun k_=>(P0_ k_∨w.heap.size≤k_)) u9000_ x0_1)∧Aside0 (Kept w w' (fun k_=>P0_ k_))∧Aside0 (Below w0.heap.size w0 w'))
 case atStart=>exact ⟨(l0),(a1),(0),qz6,qz6,H',⟨Nat.le_refl _⟩,⟨by (with_reducible repeat (first|apply Kd.R_alloc|apply Kd.R_drewN|apply Kd.R_drew));exact HO0.out⟩,⟨qz24⟩,⟨qz2⟩⟩
 case round=>
  clear H'
  try clear p2
  obtain ⟨x0_1,x1_1,x5_1,rfl,rfl,HA,HK1,HO_0,HK,HB⟩:=hrel
  cases gk with
  | zero=>exact absurd HA.out (by simp [laws_markTrmCellS.l0])
  | succ k1=>
   have H:=HA.out
   clear HA
   simp only [laws_markTrmCellS.l0] at H
   by_cases c3:x5_1<(x0_1.length:Int)
   ·rw [if_pos c3] at H
    have c3b0:decide (x5_1<(x0_1.length:Int))=true:=decide_eq_true c3
    clear c3
    by_cases c4:0≤x5_1
    ·rw [if_pos c4] at H
     have c4b0:decide (0≤x5_1)=true:=decide_eq_true c4
     clear c4
     obtain ⟨y195,hy195⟩:∃ y_:List (S46),y_=(x0_1.set (x5_1:Int).toNat (⟨x1_1,(rd_T46 x0_1 x5_1).f1,(rd_T46 x0_1 x5_1).f2⟩:S46)):=⟨_,rfl⟩
     replace H:((some (y195.set (x5_1:Int).toNat (⟨(rd_T46 y195 x5_1).f0,wrap64 (x1_1+1),(rd_T46 y195 x5_1).f2⟩:S46):List (S46))).bind fun y196=>((laws_markText.f k1 (wrap64 ((wrap64 (x1_1+1))+1))).bind fun t197=>(laws_markTrmCellS.l0 k1 (y196.set (x5_1:Int).toNat (⟨(rd_T46 y196 x5_1).f0,(rd_T46 y196 x5_1).f1,t197⟩:S46)) (wrap64 ((wrap64 ((wrap64 (x1_1+1))+1))+1)) (wrap64 (x5_1+1)))))=some (r1,r2):=by first|(rw [hy195];exact H)|exact H
     have Ny195:=Aside0.mk hy195
     clear hy195
     obtain ⟨y196,hy196⟩:∃ y_:List (S46),y_=(y195.set (x5_1:Int).toNat (⟨(rd_T46 y195 x5_1).f0,wrap64 (x1_1+1),(rd_T46 y195 x5_1).f2⟩:S46)):=⟨_,rfl⟩
     replace H:((laws_markText.f k1 (wrap64 ((wrap64 (x1_1+1))+1))).bind fun t197=>(laws_markTrmCellS.l0 k1 (y196.set (x5_1:Int).toNat (⟨(rd_T46 y196 x5_1).f0,(rd_T46 y196 x5_1).f1,t197⟩:S46)) (wrap64 ((wrap64 ((wrap64 (x1_1+1))+1))+1)) (wrap64 (x5_1+1))))=some (r1,r2):=by first|(rw [hy196];exact H)|exact H
     have Ny196:=Aside0.mk hy196
     clear hy196
     replace H:=Option.bind_eq_some_iff.mp H
     obtain ⟨t197,A70,H⟩:=H
     try dsimp only at H
     have A7:=Aside0.mk A70
     clear A70
     obtain ⟨y198,hy198⟩:∃ y_:List (S46),y_=(y196.set (x5_1:Int).toNat (⟨(rd_T46 y196 x5_1).f0,(rd_T46 y196 x5_1).f1,t197⟩:S46)):=⟨_,rfl⟩
     replace H:(laws_markTrmCellS.l0 k1 y198 (wrap64 ((wrap64 ((wrap64 (x1_1+1))+1))+1)) (wrap64 (x5_1+1)))=some (r1,r2):=by first|(rw [hy198];exact H)|exact H
     have Ny198:=Aside0.mk hy198
     clear hy198
     have H':=Aside0.mk H
     clear H
     obtain ⟨Ao9,co9,eo9⟩:=Kd.R_slice HO_0.out
     subst eo9
     have p5:0≤(x5_1:Int):=of_decide_eq_true qz3
     have q5:(x5_1:Int)<((x0_1.length:Int):Int):=of_decide_eq_true qz3
     obtain ⟨go5,co5,eo5,gb5,gl5,cl5,HG5⟩:=Kd.R_form HO_0.out (by omega)
     (first|cases eo5|(injection eo5 with ea_ en_ ec_;(first|subst ea_|(injection ea_ with ea_;subst ea_));subst ec_;clear en_))
     have GB5:=Aside0.mk gb5
     have GG5:=Aside0.mk HG5
     clear gb5 gl5 HG5
     have HMgo5:=Aside0.mk (show (P0_ go5∨w.heap.size≤go5) from (HO_0.out.1 _ rfl))
     obtain ⟨ce5,hcl5,hM5,hcc5,hfr5⟩:=Kd.R_elem HO_0.out z46 (x5_1:Int) p5 q5
     obtain rfl:=k46_openM hM5
     have hx5_0:wr.cell? ⟨go5,(x5_1:Int).toNat * 3,none⟩=some (.int .i64 ((rd_T46 x0_1 x5_1).f0)):=hcc5 0 _ rfl
     have hx5_1:wr.cell? ⟨go5,(x5_1:Int).toNat * 3+1,none⟩=some (.int .i64 ((rd_T46 x0_1 x5_1).f1)):=hcc5 1 _ rfl
     have hx5_2:wr.cell? ⟨go5,(x5_1:Int).toNat * 3+2,none⟩=some (.string ((rd_T46 x0_1 x5_1).f2)):=hcc5 2 _ rfl
     have hf5_0:wr.frozen? ⟨go5,(x5_1:Int).toNat * 3,none⟩=false:=hfr5 0
     have hf5_1:wr.frozen? ⟨go5,(x5_1:Int).toNat * 3+1,none⟩=false:=hfr5 1
     have hf5_2:wr.frozen? ⟨go5,(x5_1:Int).toNat * 3+2,none⟩=false:=hfr5 2
     (try clear hcl5);(try clear hcc5);(try clear hfr5);(try clear hM5)
     replace p5:=eq_true p5
     replace q5:=eq_true q5
     have HX10:=Aside0.mk (show Kd.R k46 46 wr w0.heap.size (fun k_=>(P0_ k_∨w.heap.size≤k_)) (.slice (some ⟨go5,0,none⟩) x0_1.length co9) x0_1 from qz35)
     obtain ⟨ce10,hcl10,hM10,hcc10,hfr10⟩:=Kd.R_elem HX10.out z46 (x5_1:Int) (of_decide_eq_true qz3) (by have h_:(x5_1:Int)<((x0_1.length:Int):Int):=of_decide_eq_true qz3;first|exact h_|(have e_:=(Kd.R_reads' HO_0.out).1;omega)|simpa using h_)
     obtain rfl:=k46_openM hM10
     have HP10:=Kd.R_seg HX10.out (x5_1:Int) (of_decide_eq_true qz3) (by have h_:(x5_1:Int)<((x0_1.length:Int):Int):=of_decide_eq_true qz3;first|exact h_|(have e_:=(Kd.R_reads' HO_0.out).1;omega)|simpa using h_) (seg:=[.int .i64 x1_1]) (j:=0) hcl10 hcc10 (show 1≤3 from by decide) (x':=(⟨x1_1,(rd_T46 x0_1 x5_1).f1,(rd_T46 x0_1 x5_1).f2⟩:S46)) (k46_mkM _ _ _ (⟨x1_1,(rd_T46 x0_1 x5_1).f1,(rd_T46 x0_1 x5_1).f2⟩:S46) ) (fun _ hk=>hk)
     have hx10_0:=hcc10 0 _ rfl
     (try simp only [show (k46).sz=3 from rfl,Nat.mul_one,Nat.add_zero] at hx10_0)
     have hf10_0:=hfr10 0
     (try simp only [show (k46).sz=3 from rfl,Nat.mul_one,Nat.add_zero] at hf10_0)
     (try clear hcl10);(try clear hcc10);(try clear hfr10);(try clear hM10)
     go_wp2_with (first|((with_reducible refine gate_store (t:=3) (p:=16) rfl ?_);refine store_event (t:=3) (p:=16) (v:=?vo_w11) (w1:=(wr.setCell ⟨go5,(x5_1:Int).toNat * 3,none⟩ (.int .i64 x1_1))) ?hg ?ho ?hn ?hr ?_;(case ho=>rfl);(case hg=>rfl);(case hn=>rfl);(case hr=>first|(go_simp;done)|(go_simp;rfl));intro w11 hw;have hg:wr.grownBy w11 (some go5):=(by rw [hw];exact HP10.2);have hp_:Kd.R k46 46 w11 w0.heap.size (fun k_=>(P0_ k_∨w.heap.size≤k_)) (.slice (some ⟨go5,0,none⟩) x0_1.length co9) y195:=(by rw [hw,Ny195.out];exact HP10.1);clear HP10;have n0_:=Aside0.mk (hp_);have n1_:=Aside0.mk ((by rw [hw];exact below_set (HB.out) GB5.out:Below w0.heap.size w0 w11));have n2_:=Aside0.mk (Kept.of_grown (S:=(fun k_=>P0_ k_)) hg qz24 (fun k_ e_=>(HO_0.out.1 k_ e_)));clear HO_0 HB HK;have HO_0:=n0_;have HB:=n1_;have HK:=n2_;clear n0_ n1_ n2_ hg hw hp_;have p6:0≤(x5_1:Int):=of_decide_eq_true qz3;have q6:(x5_1:Int)<((x0_1.length:Int):Int):=of_decide_eq_true qz3;obtain ⟨ce6,hcl6,hM6,hcc6,hfr6⟩:=Kd.R_elem HO_0.out z46 (x5_1:Int) p6 q6;obtain rfl:=k46_openM hM6;have hx6_0:w11.cell? ⟨go5,(x5_1:Int).toNat * 3,none⟩=some (.int .i64 ((rd_T46 y195 x5_1).f0)):=hcc6 0 _ rfl;have hx6_1:w11.cell? ⟨go5,(x5_1:Int).toNat * 3+1,none⟩=some (.int .i64 ((rd_T46 y195 x5_1).f1)):=hcc6 1 _ rfl;have hx6_2:w11.cell? ⟨go5,(x5_1:Int).toNat * 3+2,none⟩=some (.string ((rd_T46 y195 x5_1).f2)):=hcc6 2 _ rfl;have hf6_0:w11.frozen? ⟨go5,(x5_1:Int).toNat * 3,none⟩=false:=hfr6 0;have hf6_1:w11.frozen? ⟨go5,(x5_1:Int).toNat * 3+1,none⟩=false:=hfr6 1;have hf6_2:w11.frozen? ⟨go5,(x5_1:Int).toNat * 3+2,none⟩=false:=hfr6 2;(try clear hcl6);(try clear hcc6);(try clear hfr6);(try clear hM6);replace p6:=eq_true p6;replace q6:=eq_true q6;have HX12:=Aside0.mk (show Kd.R k46 46 w11 w0.heap.size (fun k_=>(P0_ k_∨w.heap.size≤k_)) (.slice (some ⟨go5,0,none⟩) x0_1.length co9) y195 from qz35);obtain ⟨ce12,hcl12,hM12,hcc12,hfr12⟩:=Kd.R_elem HX12.out z46 (x5_1:Int) (of_decide_eq_true qz3) (by have h_:(x5_1:Int)<((x0_1.length:Int):Int):=of_decide_eq_true qz3;first|exact h_|(have e_:=(Kd.R_reads' HO_0.out).1;omega)|simpa using h_);obtain rfl:=k46_openM hM12;have HP12:=Kd.R_seg HX12.out (x5_1:Int) (of_decide_eq_true qz3) (by have h_:(x5_1:Int)<((x0_1.length:Int):Int):=of_decide_eq_true qz3;first|exact h_|(have e_:=(Kd.R_reads' HO_0.out).1;omega)|simpa using h_) (seg:=[.int .i64 (wrap64 (x1_1+1))]) (j:=1) hcl12 hcc12 (show 2≤3 from by decide) (x':=(⟨(rd_T46 y195 x5_1).f0,wrap64 (x1_1+1),(rd_T46 y195 x5_1).f2⟩:S46)) (k46_mkM _ _ _ (⟨(rd_T46 y195 x5_1).f0,wrap64 (x1_1+1),(rd_T46 y195 x5_1).f2⟩:S46) ) (fun _ hk=>hk);have hx12_1:=hcc12 1 _ rfl;(try simp only [show (k46).sz=3 from rfl,Nat.mul_one,Nat.add_zero] at hx12_1);have hf12_1:=hfr12 1;(try simp only [show (k46).sz=3 from rfl,Nat.mul_one,Nat.add_zero] at hf12_1);clear hcl12 hcc12 hfr12 hM12)|((with_reducible refine gate_store (t:=3) (p:=23) rfl ?_);refine store_event (t:=3) (p:=23) (v:=?vo_w13) (w1:=(w11.setCell ⟨go5,(x5_1:Int).toNat * 3+1,none⟩ (.int .i64 (wrap64 (x1_1+1))))) ?hg ?ho ?hn ?hr ?_;(case ho=>rfl);(case hg=>rfl);(case hn=>rfl);(case hr=>first|(go_simp;done)|(go_simp;rfl));intro w13 hw;have hg:w11.grownBy w13 (some go5):=(by rw [hw];exact HP12.2);have hp_:Kd.R k46 46 w13 w0.heap.size (fun k_=>(P0_ k_∨w.heap.size≤k_)) (.slice (some ⟨go5,0,none⟩) x0_1.length co9) y196:=(by rw [hw,Ny196.out];exact HP12.1);clear HP12;have n0_:=Aside0.mk (hp_);have n1_:=Aside0.mk ((by rw [hw];exact below_set (HB.out) GB5.out:Below w0.heap.size w0 w13));have n2_:=Aside0.mk (Kept.of_grown (S:=(fun k_=>P0_ k_)) hg qz24 (fun k_ e_=>(HO_0.out.1 k_ e_)));clear HO_0 HB HK;have HO_0:=n0_;have HB:=n1_;have HK:=n2_;clear n0_ n1_ n2_ hg hw hp_)|(go_at_call 77;(with_reducible refine (laws_markText.calls k1 (wrap64 ((wrap64 (x1_1+1))+1)) t197 _ A7.out).mono ?_);rintro e w14 ⟨rfl,hb⟩;have n0_:=Aside0.mk (Kd.R_below qz35 hb);have n1_:=Aside0.mk (Kept.below (S:=(fun k_=>P0_ k_)) qz24 hb);have n2_:=Aside0.mk (below_step qz1 hb);clear HO_0 HK HB;have HO_0:=n0_;have HK:=n1_;have HB:=n2_;clear n0_ n1_ n2_;(try clear hb);(try clear hb2);(try clear hk);(try clear hi);have p8:0≤(x5_1:Int):=of_decide_eq_true qz3;have q8:(x5_1:Int)<((x0_1.length:Int):Int):=of_decide_eq_true qz3;obtain ⟨ce8,hcl8,hM8,hcc8,hfr8⟩:=Kd.R_elem HO_0.out z46 (x5_1:Int) p8 q8;obtain rfl:=k46_openM hM8;have hx8_0:w14.cell? ⟨go5,(x5_1:Int).toNat * 3,none⟩=some (.int .i64 ((rd_T46 y196 x5_1).f0)):=hcc8 0 _ rfl;have hx8_1:w14.cell? ⟨go5,(x5_1:Int).toNat * 3+1,none⟩=some (.int .i64 ((rd_T46 y196 x5_1).f1)):=hcc8 1 _ rfl;have hx8_2:w14.cell? ⟨go5,(x5_1:Int).toNat * 3+2,none⟩=some (.string ((rd_T46 y196 x5_1).f2)):=hcc8 2 _ rfl;have hf8_0:w14.frozen? ⟨go5,(x5_1:Int).toNat * 3,none⟩=false:=hfr8 0;have hf8_1:w14.frozen? ⟨go5,(x5_1:Int).toNat * 3+1,none⟩=false:=hfr8 1;have hf8_2:w14.frozen? ⟨go5,(x5_1:Int).toNat * 3+2,none⟩=false:=hfr8 2;(try clear hcl8);(try clear hcc8);(try clear hfr8);(try clear hM8);replace p8:=eq_true p8;replace q8:=eq_true q8;have HX15:=Aside0.mk (show Kd.R k46 46 w14 w0.heap.size (fun k_=>(P0_ k_∨w.heap.size≤k_)) (.slice (some ⟨go5,0,none⟩) x0_1.length co9) y196 from qz35);obtain ⟨ce15,hcl15,hM15,hcc15,hfr15⟩:=Kd.R_elem HX15.out z46 (x5_1:Int) (of_decide_eq_true qz3) (by have h_:(x5_1:Int)<((x0_1.length:Int):Int):=of_decide_eq_true qz3;first|exact h_|(have e_:=(Kd.R_reads' HO_0.out).1;omega)|simpa using h_);obtain rfl:=k46_openM hM15;have HP15:=Kd.R_seg HX15.out (x5_1:Int) (of_decide_eq_true qz3) (by have h_:(x5_1:Int)<((x0_1.length:Int):Int):=of_decide_eq_true qz3;first|exact h_|(have e_:=(Kd.R_reads' HO_0.out).1;omega)|simpa using h_) (seg:=[.string t197]) (j:=2) hcl15 hcc15 (show 3≤3 from by decide) (x':=(⟨(rd_T46 y196 x5_1).f0,(rd_T46 y196 x5_1).f1,t197⟩:S46)) (k46_mkM _ _ _ (⟨(rd_T46 y196 x5_1).f0,(rd_T46 y196 x5_1).f1,t197⟩:S46) ) (fun _ hk=>hk);have hx15_2:=hcc15 2 _ rfl;(try simp only [show (k46).sz=3 from rfl,Nat.mul_one,Nat.add_zero] at hx15_2);have hf15_2:=hfr15 2;(try simp only [show (k46).sz=3 from rfl,Nat.mul_one,Nat.add_zero] at hf15_2);clear hcl15 hcc15 hfr15 hM15)|((with_reducible refine gate_store (t:=9) (p:=31) rfl ?_);refine store_event (t:=9) (p:=31) (v:=?vo_w16) (w1:=(w14.setCell ⟨go5,(x5_1:Int).toNat * 3+2,none⟩ (.string t197))) ?hg ?ho ?hn ?hr ?_;(case ho=>rfl);(case hg=>rfl);(case hn=>rfl);(case hr=>first|(go_simp;done)|(go_simp;rfl));intro w16 hw;have hg:w14.grownBy w16 (some go5):=(by rw [hw];exact HP15.2);have hp_:Kd.R k46 46 w16 w0.heap.size (fun k_=>(P0_ k_∨w.heap.size≤k_)) (.slice (some ⟨go5,0,none⟩) x0_1.length co9) y198:=(by rw [hw,Ny198.out];exact HP15.1);clear HP15;have n0_:=Aside0.mk (hp_);have n1_:=Aside0.mk ((by rw [hw];exact below_set (HB.out) GB5.out:Below w0.heap.size w0 w16));have n2_:=Aside0.mk (Kept.of_grown (S:=(fun k_=>P0_ k_)) hg qz24 (fun k_ e_=>(HO_0.out.1 k_ e_)));clear HO_0 HB HK;have HO_0:=n0_;have HB:=n1_;have HK:=n2_;clear n0_ n1_ n2_ hg hw hp_))
     go_roundg k1
     case measure=>have:=HK1.out;omega
     case rel=>exact ⟨(y198),(wrap64 ((wrap64 ((wrap64 (x1_1+1))+1))+1)),(wrap64 (x5_1+1)),qz6,qz6,H',⟨by have:=HK1.out;omega⟩,⟨qz35⟩,⟨qz24⟩,⟨qz2⟩⟩
    ·rw [if_neg c4] at H
     exact absurd H (by simp)
   ·rw [if_neg c3] at H
    have c3b0:decide (x5_1<(x0_1.length:Int))=false:=decide_eq_false c3
    clear c3
    simp only [Option.some.injEq,Prod.mk.injEq] at H
    obtain ⟨rfl,rfl⟩:=H
    obtain ⟨Ao17,co17,eo17⟩:=Kd.R_slice HO_0.out
    subst eo17
    go_wp2
    go_ret
    exact ⟨qz4,qz35,qz2,qz24⟩

/-! ### laws_markSubBindS: function 38 -/
/-- marks: each binding's variable, and the places of its term, one behind the other -/
def laws_markSubBindS.l0:Nat→List (S30)→Int→Int→Option (Int × (List (S30)))
 | 0,_,_,_=>none
 | k+1,x,m,i=>if i<(x.length:Int) then (if 0≤i then (laws_markTrmCellS.f k (rd_T30 x i).f1 (wrap64 (m+1))).bind fun t=>laws_markSubBindS.l0 k (x.set i.toNat ⟨m,t.2⟩) t.1 (wrap64 (i+1)) else none) else some (m,x)
def laws_markSubBindS.f (k:Nat) (l0:List (S30)) (a1:Int):Option (Int × (List (S30))):=laws_markSubBindS.l0 k l0 a1 0
theorem rdS_set {x:List Cat.Bind} {i:Int} (y:Cat.Bind) (h0:0≤i) (h1:i<(x.length:Int)):rd_T30 (x.set i.toNat y) i=y:=by
 unfold rd_T30
 rw [List.getD_eq_getElem?_getD,List.getElem?_set_self (by omega)]
 rfl
/-- element i of bindings that are the call's own, lent: its cells; the row when its variable is written, and when its term's row is -/
theorem sub_lend {W:World} {base g n cap:Nat} {P:Nat→Prop} {x:List Cat.Bind} {i:Int} (hS:Kd.S k30 30 W base P (.slice (some ⟨g,0,none⟩) n cap) x) (h0:0≤i) (h1:i<n) (hP:∀ k,W.heap.size≤k→P k) :
  ∃ (oki:Nat→Prop) (A:Option Addr) (c:Nat),(∀ k,oki k→P k∧k≠g)∧W.cell? ⟨g,i.toNat * 2,none⟩=some (.int .i64 (rd_T30 x i).f0)∧W.cell? ⟨g,i.toNat * 2+1,none⟩=some (.slice A (rd_T30 x i).f1.length c)∧W.frozen? ⟨g,i.toNat * 2,none⟩=false∧
   Kd.R k46 46 W base oki (.slice A (rd_T30 x i).f1.length c) (rd_T30 x i).f1∧
   (∀ m:Int,Kd.S k30 30 (W.setCell ⟨g,i.toNat * 2,none⟩ (.int .i64 m)) base P (.slice (some ⟨g,0,none⟩) n cap) (x.set i.toNat ⟨m,(rd_T30 x i).f1⟩)∧W.grownBy (W.setCell ⟨g,i.toNat * 2,none⟩ (.int .i64 m)) (some g))∧
   (∀ (W':World) (t:List Cat.Cell),Kept W W' oki→Kd.R k46 46 W' base (fun k=>oki k∨W.heap.size≤k) (.slice A (rd_T30 x i).f1.length c) t→Kd.S k30 30 W' base P (.slice (some ⟨g,0,none⟩) n cap) (x.set i.toNat ⟨(rd_T30 x i).f0,t⟩)):=by
 obtain ⟨oki,c,hcl,hM,hcc,hfr,hoki,hH⟩:=Kd.S_elem hS z30 i h0 h1
 have hM':k30.M W base oki (rd_T30 x i) c:=hM
 obtain ⟨v1,rfl,hR⟩:=k30_openM hM'
 obtain ⟨A,cc,ev⟩:=Kd.R_slice hR
 subst ev
 refine ⟨oki,A,cc,hoki,hcc 0 _ rfl,hcc 1 _ rfl,hfr 0,hR,fun m=>?_,fun W' t hk hR'=>?_⟩
 ·exact Kd.S_seg0 hH h0 h1 (seg:=[.int .i64 m]) (j:=0) (show 1≤2 from by decide) (x':=(⟨m,(rd_T30 x i).f1⟩:S30)) (okp:=oki) (k30_mkM _ _ _ (⟨m,(rd_T30 x i).f1⟩:S30) hR) (fun _ hk=>hk)
 ·have h2:=Kd.H_kept (Kd.H_widen hH) (hk.mono (S':=fun k=>oki k∨P k∧W.heap.size≤k) (fun k hk=>.inl hk)) (fun k _ hn hs=>hn hs)
  exact Kd.H_back h2 (k30_mkM _ _ _ (⟨(rd_T30 x i).f0,t⟩:S30) hR') (fun k hk=>hk.elim .inl (fun h=>.inr ⟨hP k h,h⟩))
/-- the variable of element i marked: what is lent then -/
theorem sub_mark {W:World} {base g n cap:Nat} {P:Nat→Prop} {x:List Cat.Bind} {i:Int} (hS:Kd.S k30 30 W base P (.slice (some ⟨g,0,none⟩) n cap) x) (h0:0≤i) (h1:i<n) (hP:∀ k,W.heap.size≤k→P k) (m:Int) :
  W.grownBy (W.setCell ⟨g,i.toNat * 2,none⟩ (.int .i64 m)) (some g)∧∃ (oki:Nat→Prop) (A:Option Addr) (c:Nat),(∀ k,oki k→P k∧k≠g)∧(W.setCell ⟨g,i.toNat * 2,none⟩ (.int .i64 m)).cell? ⟨g,i.toNat * 2+1,none⟩=some (.slice A (rd_T30 x i).f1.length c)∧
   Kd.R k46 46 (W.setCell ⟨g,i.toNat * 2,none⟩ (.int .i64 m)) base oki (.slice A (rd_T30 x i).f1.length c) (rd_T30 x i).f1∧
   ∀ (W':World) (t:List Cat.Cell),Kept (W.setCell ⟨g,i.toNat * 2,none⟩ (.int .i64 m)) W' oki→Kd.R k46 46 W' base (fun k=>oki k∨(W.setCell ⟨g,i.toNat * 2,none⟩ (.int .i64 m)).heap.size≤k) (.slice A (rd_T30 x i).f1.length c) t→Kd.S k30 30 W' base P (.slice (some ⟨g,0,none⟩) n cap) (x.set i.toNat ⟨m,t⟩):=by
 obtain ⟨_,_,_,_,_,_,_,_,hput,_⟩:=sub_lend hS h0 h1 hP
 obtain ⟨hS1,hg⟩:=hput m
 have hn:=(Kd.S_reads' hS).1
 have hP1:∀ k,(W.setCell ⟨g,i.toNat * 2,none⟩ (.int .i64 m)).heap.size≤k→P k:=fun k hk=>hP k (Nat.le_trans hg.size hk)
 obtain ⟨oki,A,c,hoki,_,hx1,_,hR,_,hback⟩:=sub_lend hS1 h0 h1 hP1
 rw [rdS_set _ h0 (by omega)] at hx1 hR hback
 refine ⟨hg,oki,A,c,hoki,hx1,hR,fun W' t hk hR'=>?_⟩
 have:=hback W' t hk hR'
 rwa [List.set_set] at this
set_option maxHeartbeats 8000000 in
set_option maxRecDepth 100000 in
theorem laws_markSubBindS.calls (k:Nat) (P0_:Nat→Prop) (v:Value) (l0:List (S30)) (a1:Int) (r1:Int) (r2:List (S30)) (w0 w:World) (hB:Below w0.heap.size w0 w) (ho0:Kd.S k30 30 w w0.heap.size P0_ v l0) (h:laws_markSubBindS.f k l0 a1=some (r1,r2)) :
  Calls Tryd.prog 38 #[v,.int .i64 a1] w fun e w'=>e = .returned (.int .i64 r1)∧Kd.S k30 30 w' w0.heap.size (fun k_=>(P0_ k_∨w.heap.size≤k_)) v r2∧Below w0.heap.size w0 w'∧Kept w w' (fun k_=>P0_ k_):=by
 have HS:=Aside0.mk (show Kd.S k30 30 w w0.heap.size (fun k_=>(P0_ k_∨w.heap.size≤k_)) v l0 from Kd.S_mono ho0 (fun k_ hk=>.inl hk))
 have HB:=Aside0.mk hB
 have HK:=Aside0.mk (Kept.refl w (fun k_=>P0_ k_))
 have HF:=Aside0.mk (show laws_markSubBindS.l0 k l0 a1 0=some (r1,r2) from h)
 obtain ⟨Av,cv,ev⟩:=Kd.S_slice ho0
 subst ev
 clear ho0 hB h
 go_enter Tryd.func38,Tryd.ntmps38
 go_wp2
 go_loopg [1,5] k (fun gg v1 v5 wr=>∃ (x:List Cat.Bind) (m i:Int),v1 = .int .i64 m∧v5 = .int .i64 i∧Aside0 (Kd.S k30 30 wr w0.heap.size (fun k_=>(P0_ k_∨w.heap.size≤k_)) (.slice Av l0.length cv) x)∧Aside0 (Below w0.heap.size w0 wr)∧Aside0 (Kept w wr (fun k_=>P0_ k_))∧Aside0 (laws_markSubBindS.l0 gg x m i=some (r1,r2)))
 case atStart=>exact ⟨l0,a1,0,rfl,rfl,HS,HB,HK,HF⟩
 case round=>
  clear HS HB HK HF
  obtain ⟨x,m,i,rfl,rfl,HS,HB,HK,HF⟩:=hrel
  have hxl:=(Kd.S_reads' HS.out).1
  have HXL:=Aside0.mk hxl
  cases gk with
  | zero=>exact absurd HF.out (by simp [laws_markSubBindS.l0])
  | succ gk=>
   have h:=HF.out
   rw [laws_markSubBindS.l0,← hxl] at h
   clear hxl
   by_cases hi:i<(l0.length:Int)
   ·rw [if_pos hi] at h
    by_cases h0:0≤i
    case neg=>rw [if_neg h0] at h;cases h
    rw [if_pos h0] at h
    obtain ⟨⟨m2,t⟩,h1,h2⟩:=Option.bind_eq_some_iff.1 h
    have H1:=Aside0.mk h1
    have H2:=Aside0.mk h2
    clear h h1 h2 HF
    obtain ⟨g,cap,ev,hgb,hgl,_⟩:=Kd.S_form HS.out (by have:=HXL.out;omega)
    injection ev with ea en ec
    subst ea ec
    clear en
    have hP:∀ k,wr.heap.size≤k→(P0_ k∨w.heap.size≤k):=fun k hk=>.inr (Nat.le_trans HK.out.1 hk)
    obtain ⟨_,_,_,_,hx0,_,hf0,_,_,_⟩:=sub_lend HS.out h0 hi hP
    have HM:=Aside0.mk (sub_mark HS.out h0 hi hP m)
    have HG:=Aside0.mk (show P0_ g∨w.heap.size≤g from (Kd.S_R HS.out).1 g (by simp [Value.ownBlock]))
    have HGB:=Aside0.mk hgb
    clear hP hgb hgl
    go_wp2_with (first
     | ((with_reducible refine gate_store (t:=3) (p:=16) rfl ?_);refine store_event (t:=3) (p:=16) (v:=?vo_w1) (w1:=(wr.setCell ⟨g,i.toNat * 2,none⟩ (.int .i64 m))) ?hg ?ho ?hn ?hr ?_;(case ho=>rfl);(case hg=>rfl);(case hn=>rfl);(case hr=>first|(go_simp;done)|(go_simp;rfl));intro w1 hw;have hm:=HM.out;have HB1:=Aside0.mk (show Below w0.heap.size w0 w1 from by rw [hw];exact below_set HB.out HGB.out);rw [← hw] at hm;obtain ⟨hg1,oki,A,c,hoki,hx1,hR,hback⟩:=hm;have HK1:=Aside0.mk (Kept.of_grown (S:=(fun k_=>P0_ k_)) hg1 HK.out (fun k e=>(by injection e with e;subst e;exact HG.out)));have HO:=Aside0.mk hoki;have HR:=Aside0.mk hR;have HBK:=Aside0.mk hback;clear hw hoki hR hback hg1 HM hx0 hf0 HS)
     | (go_at_call 39;(with_reducible refine (laws_markTrmCellS.calls gk oki _ _ (wrap64 (m+1)) m2 t w0 w1 HB1.out HR.out H1.out).mono ?_);rintro e w2 ⟨rfl,hr2,hb2,hk2⟩;have HS2:=Aside0.mk (HBK.out w2 t hk2 hr2);have HB2:=Aside0.mk hb2;have HK2:=Aside0.mk (HK1.out.then_ hk2 (fun k hk=>(HO.out k hk).1));clear hr2 hb2 hk2))
    go_roundg gk
    case measure=>omega
    case rel=>exact ⟨x.set i.toNat ⟨m,t⟩,m2,wrap64 (i+1),rfl,by go_num,HS2,HB2,HK2,H2⟩
   ·rw [if_neg hi] at h
    injection h with h
    injection h with h1 h2
    subst h1 h2
    clear HF
    go_wp2
    go_ret
    exact ⟨rfl,HS.out,HB.out,HK.out⟩
/-! what is told of some blocks alone -/
def Loc (X:World→Prop) (W:World) (lo hi:Nat):Prop:=hi≤W.heap.size∧∀ W':World,(∀ k,lo≤k→k<hi→W'.heap[k]?=W.heap[k]?)→X W'
theorem Loc.now {X:World→Prop} {W:World} {lo hi:Nat} (h:Loc X W lo hi):X W:=h.2 W (fun _ _ _=>rfl)
theorem Loc.kept {X:World→Prop} {W W':World} {lo hi:Nat} {S:Nat→Prop} (h:Loc X W lo hi) (hk:Kept W W' S) (hS:∀ k,lo≤k→k<hi→¬ S k):Loc X W' lo hi:=
 ⟨Nat.le_trans h.1 hk.1,fun V hV=>h.2 V (fun k h1 h2=>(hV k h1 h2).trans (hk.2 k (Nat.lt_of_lt_of_le h2 h.1) (hS k h1 h2)))⟩
theorem Loc.below {X:World→Prop} {W W':World} {lo hi:Nat} (h:Loc X W lo hi) (hb:Below W.heap.size W W'):Loc X W' lo hi:=h.kept (Kept.of_below hb (fun _=>False)) (fun _ _ _ h=>h)
theorem Loc.ofR {α:Type} {d:Kd α} {e base b0:Nat} {W':World} {v:Value} {xs:List α} (ho:d.R e W' b0 (fun _=>True) v xs) (hb:base≤b0):Loc (fun V=>d.R e V base (fun k=>b0≤k∧k<W'.heap.size) v xs) W' b0 W'.heap.size:=
 ⟨Nat.le_refl _,fun V hV=>Kd.R_move (Kd.R_lower (Kd.R_mono (Kd.R_bound ho) (fun k hk=>⟨hk.2.1,hk.2.2.1⟩)) hb) (fun k hk=>hV k hk.1 hk.2)⟩
theorem Loc.ofS {α:Type} {d:Kd α} {e base b0:Nat} {W':World} {v:Value} {xs:List α} (ho:Kd.S d e W' b0 (fun _=>True) v xs) (hb:base≤b0):Loc (fun V=>Kd.S d e V base (fun k=>b0≤k∧k<W'.heap.size) v xs) W' b0 W'.heap.size:=
 ⟨Nat.le_refl _,fun V hV=>Kd.S_move (Kd.S_lower (Kd.S_mono (Kd.S_bound ho) (fun k hk=>⟨hk.2.1,hk.2.2.1⟩)) hb) (fun k hk=>hV k hk.1 hk.2)⟩
def AllL (L:List ((World→Prop) × Nat × Nat)) (W:World):Prop:=∀ p ∈ L,Loc p.1 W p.2.1 p.2.2
theorem AllL.nil (W:World):AllL [] W:=fun _ h=>by cases h
theorem AllL.cons {L:List ((World→Prop) × Nat × Nat)} {X:World→Prop} {W:World} {lo hi:Nat} (h:Loc X W lo hi) (t:AllL L W):AllL ((X,lo,hi) :: L) W:=fun p hp=>by
 rcases List.mem_cons.1 hp with rfl|hp
 ·exact h
 ·exact t p hp
theorem AllL.below {L:List ((World→Prop) × Nat × Nat)} {W W':World} (h:AllL L W) (hb:Below W.heap.size W W'):AllL L W':=fun p hp=>(h p hp).below hb
theorem AllL.kept {L:List ((World→Prop) × Nat × Nat)} {W W':World} {S:Nat→Prop} (h:AllL L W) (hk:Kept W W' S) (hS:∀ p ∈ L,∀ k,p.2.1≤k→k<p.2.2→¬ S k):AllL L W':=fun p hp=>(h p hp).kept hk (hS p hp)
theorem AllL.tail {L:List ((World→Prop) × Nat × Nat)} {p:(World→Prop) × Nat × Nat} {W:World} (h:AllL (p :: L) W):AllL L W:=fun q hq=>h q (.tail _ hq)
theorem AllL.i0 {L:List ((World→Prop) × Nat × Nat)} {X:World→Prop} {W:World} {lo hi:Nat} (h:AllL ((X,lo,hi) :: L) W):X W:=(h _ (.head _)).now
theorem AllL.i1 {L:List ((World→Prop) × Nat × Nat)} {p:(World→Prop) × Nat × Nat} {X:World→Prop} {W:World} {lo hi:Nat} (h:AllL (p :: (X,lo,hi) :: L) W):X W:=h.tail.i0
theorem AllL.i2 {L:List ((World→Prop) × Nat × Nat)} {p q:(World→Prop) × Nat × Nat} {X:World→Prop} {W:World} {lo hi:Nat} (h:AllL (p :: q :: (X,lo,hi) :: L) W):X W:=h.tail.tail.i0
theorem AllL.i3 {L:List ((World→Prop) × Nat × Nat)} {p q r:(World→Prop) × Nat × Nat} {X:World→Prop} {W:World} {lo hi:Nat} (h:AllL (p :: q :: r :: (X,lo,hi) :: L) W):X W:=h.tail.tail.tail.i0
theorem AllL.i4 {L:List ((World→Prop) × Nat × Nat)} {p q r s:(World→Prop) × Nat × Nat} {X:World→Prop} {W:World} {lo hi:Nat} (h:AllL (p :: q :: r :: s :: (X,lo,hi) :: L) W):X W:=h.tail.tail.tail.tail.i0

end Go.Proofs.YtlaicnoikeieeaaDoor.P
