/- Contracts of functions of the program: each as a Lean function, and that its call does what that says; printed by cprint.py (this session) over print.py of the kit. Conditions: the hypotheses of each theorem. -/
import Derived.Test.YtepkgjcobocbpaaDoorVZ
import Derived.Test.YtepkgjcobocbpaaDoorP0
import Derived.Test.YtepkgjcobocbpaaDoorP15
namespace Go.Proofs.YtepkgjcobocbpaaDoor.P
open Go.RowKit Go.Proofs.YtepkgjcobocbpaaDoorW.PrintWords Go.Proofs.YtepkgjcobocbpaaDoorW.PrintLast Go.Proofs.YtepkgjcobocbpaaDoorW.PrintMore
attribute [local go_sem] max2_int min2_int max_two min_two max_three min_three max_four min_four   -- for this text's walks alone
set_option linter.unusedVariables false
set_option linter.unusedSimpArgs false

/-! ### laws_eqPrgClauseS: function 39 -/
def laws_eqPrgClauseS.l0:Nat→List (S86)→List (S86)→Int→Option (Bool)
 | 0,_,_,_=>none
 | k+1,x0,x1,x5=>if x5<(x0.length:Int) then (if 0≤x5 then (if x5<(x1.length:Int) then ((laws_eqPrgClause.f k ((rd_T86 x0 x5).f0) ((rd_T86 x0 x5).f1) ((rd_T86 x1 x5).f0) ((rd_T86 x1 x5).f1)).bind fun t320=>(if t320=true then (laws_eqPrgClauseS.l0 k x0 x1 (wrap64 (x5+1))) else (some false))) else (none)) else (none)) else (some true)
def laws_eqPrgClauseS.f (k:Nat) (l0:List (S86)) (l1:List (S86)):Option (Bool):=if (l0.length:Int)=(l1.length:Int) then (laws_eqPrgClauseS.l0 k l0 l1 0) else (some false)
def laws_eqPrgClauseS.T6:Bool × List (List Nat × List Nat):=(true,[([],[]),([],[]),([0,1],[0,1]),([2],[2]),([],[]),([],[]),([4,5],[4,5]),([6],[6]),([3,7],[3,7]),([8],[8])])
def laws_eqPrgClauseS.B6:List Nat:=[0,0,3,7,0,0,48,112,255,511]
theorem laws_eqPrgClauseS.tab6:rtab .any (opsOf Tryd.f39 6)=laws_eqPrgClauseS.T6:=by kernel_rfl
theorem laws_eqPrgClauseS.bits6:waitsOk laws_eqPrgClauseS.T6.2 laws_eqPrgClauseS.B6=true:=by kernel_rfl
set_option maxHeartbeats 8000000 in
set_option maxRecDepth 100000 in
theorem laws_eqPrgClauseS.calls (k:Nat) (A0:Option Addr) (c0:Nat) (l0:List (S86)) (A1:Option Addr) (c1:Nat) (l1:List (S86)) (r:Bool) (w:World) (hr0:Kd.C k86 w A0 l0.length l0) (hc0:l0.length≤c0) (hr1:Kd.C k86 w A1 l1.length l1) (hc1:l1.length≤c1) (h:laws_eqPrgClauseS.f k l0 l1=some r) :
  Calls Tryd.prog 39 #[.slice A0 l0.length c0,.slice A1 l1.length c1] w fun e w'=>e = .returned (.bool r)∧Below w.heap.size w w':=by
 have hu86:=Tryd.underlying86
 have HR0:=Aside0.mk hr0
 have HC0:=Aside0.mk hc0
 clear hr0 hc0
 have HR1:=Aside0.mk hr1
 have HC1:=Aside0.mk hc1
 clear hr1 hc1
 have HB:=Aside0.mk (Below.refl w.heap.size w)
 have H:(if (l0.length:Int)=(l1.length:Int) then (laws_eqPrgClauseS.l0 k l0 l1 0) else (some false))=some r:=h
 clear h
 by_cases c3:(l0.length:Int)=(l1.length:Int)
 ·rw [if_pos c3] at H
  have c3b0:((l0.length:Int) == (l1.length:Int))=true:=beq_iff_eq.mpr c3
  have c3b1:((l0.length:Int) != (l1.length:Int))=false:=bne_eq_false_iff_eq.mpr c3
  have c3b2:(l0.length == l1.length)=true:=qz134
  clear c3
  have H':=Aside0.mk H
  clear H
  go_enter Tryd.func39,Tryd.ntmps39
  go_wp2
  go_loopg [5] k (fun kq v5 w'=>∃ (x5_1:Int),v5 = .int .i64 x5_1∧Aside0 (laws_eqPrgClauseS.l0 kq l0 l1 x5_1=some r)∧Aside0 (kq≤k)∧Aside0 (Below w.heap.size w w'))
  case atStart=>exact ⟨(0),qz12,H',⟨Nat.le_refl _⟩,⟨qz4⟩⟩
  case round=>
   clear H'
   try clear c1
   try clear p2
   try clear c3
   try clear c3b0
   try clear c3b1
   try clear c3b2
   obtain ⟨x5_1,rfl,HA,HK1,HB⟩:=hrel
   cases gk with
   | zero=>exact absurd HA.out (by simp [laws_eqPrgClauseS.l0])
   | succ k1=>
    have H:=HA.out
    clear HA
    simp only [laws_eqPrgClauseS.l0] at H
    by_cases c4:x5_1<(l0.length:Int)
    ·rw [if_pos c4] at H
     have c4b0:decide (x5_1<(l0.length:Int))=true:=decide_eq_true c4
     clear c4
     by_cases c5:0≤x5_1
     ·rw [if_pos c5] at H
      have c5b0:decide (0≤x5_1)=true:=decide_eq_true c5
      clear c5
      by_cases c6:x5_1<(l1.length:Int)
      ·rw [if_pos c6] at H
       have c6b0:decide (x5_1<(l1.length:Int))=true:=decide_eq_true c6
       clear c6
       replace H:=Option.bind_eq_some_iff.mp H
       obtain ⟨t320,A70,H⟩:=H
       try dsimp only at H
       have A7:=Aside0.mk A70
       clear A70
       by_cases c8:t320=true
       ·subst c8
        have H1:(laws_eqPrgClauseS.l0 k1 l0 l1 (wrap64 (x5_1+1)))=some r:=qz51
        clear H
        have H:=H1
        clear H1
        have H':=Aside0.mk H
        clear H
        try go_wp2
        have n0_:=Aside0.mk (below_drew1 HB.out)
        clear HB
        have HB:=n0_
        clear n0_
        have p318:0≤(x5_1:Int):=of_decide_eq_true qz7
        have q318:x5_1<(l0.length:Int):=of_decide_eq_true qz7
        obtain ⟨ad318,A318_0,c318_0,A318_1,c318_1,e318,hx318_0,hx318_1,hl318_0,hi318_0,hl318_1,hi318_1⟩:=at_T86 HR0.out x5_1 p318 q318
        have hw318_1:=hx318_1
        have hw318_0:=hx318_0
        cases e318
        replace hx318_0:=(HB.out.cell (World.block_lt_of_cell? w _ hx318_0)).trans hx318_0
        replace hx318_1:=(HB.out.cell (World.block_lt_of_cell? w _ hx318_1)).trans hx318_1
        have HR318_0:=Aside0.mk hi318_0
        have HC318_0:=Aside0.mk hl318_0
        clear hi318_0 hl318_0
        have HR318_1:=Aside0.mk hi318_1
        have HC318_1:=Aside0.mk hl318_1
        clear hi318_1 hl318_1
        replace p318:=eq_true p318
        replace q318:=eq_true q318
        have p319:0≤(x5_1:Int):=of_decide_eq_true qz7
        have q319:x5_1<(l1.length:Int):=of_decide_eq_true qz7
        obtain ⟨ad319,A319_0,c319_0,A319_1,c319_1,e319,hx319_0,hx319_1,hl319_0,hi319_0,hl319_1,hi319_1⟩:=at_T86 HR1.out x5_1 p319 q319
        have hw319_1:=hx319_1
        have hw319_0:=hx319_0
        cases e319
        replace hx319_0:=(HB.out.cell (World.block_lt_of_cell? w _ hx319_0)).trans hx319_0
        replace hx319_1:=(HB.out.cell (World.block_lt_of_cell? w _ hx319_1)).trans hx319_1
        have HR319_0:=Aside0.mk hi319_0
        have HC319_0:=Aside0.mk hl319_0
        clear hi319_0 hl319_0
        have HR319_1:=Aside0.mk hi319_1
        have HC319_1:=Aside0.mk hl319_1
        clear hi319_1 hl319_1
        replace p319:=eq_true p319
        replace q319:=eq_true q319
        refine start_ (n:=10) (S:=fun w'=>w'.cell? (ad318.add ((x5_1).toNat * 2))=some (.slice A318_0 ((rd_T86 l0 x5_1).f0).length c318_0)∧w'.cell? ⟨(ad318.add ((x5_1).toNat * 2)).block,(ad318.add ((x5_1).toNat * 2)).off+1,none⟩=some (.slice A318_1 ((rd_T86 l0 x5_1).f1).length c318_1)∧w'.cell? (ad319.add ((x5_1).toNat * 2))=some (.slice A319_0 ((rd_T86 l1 x5_1).f0).length c319_0)∧w'.cell? ⟨(ad319.add ((x5_1).toNat * 2)).block,(ad319.add ((x5_1).toNat * 2)).off+1,none⟩=some (.slice A319_1 ((rd_T86 l1 x5_1).f1).length c319_1)) (ds:=[]) #[false,false,false,false,false,false,false,false,false,false] (by kernel_rfl) rfl rfl ⟨((HB.out.cell (World.block_lt_of_cell? w _ hw318_0)).trans hw318_0),((HB.out.cell (World.block_lt_of_cell? w _ hw318_1)).trans hw318_1),((HB.out.cell (World.block_lt_of_cell? w _ hw319_0)).trans hw319_0),((HB.out.cell (World.block_lt_of_cell? w _ hw319_1)).trans hw319_1)⟩ (fun hHeld=>?_);refine with_tabW laws_eqPrgClauseS.tab6 laws_eqPrgClauseS.bits6 (fun HT_ HW_=>?_)
        generalize wr.drew=w9 at HB HR318_0 HR318_1 HR319_0 HR319_1 hx318_0 hx318_1 hx319_0 hx319_1 hHeld ⊢
        refine pure_ (i:=0) (N:=some 17) (v:=?_) (a':=?_) #[true,false,false,false,false,false,false,false,false,false] rfl rfl (any_of HT_.out (by kernel_rfl)) (fun _ _ _ h=>h) (Or.inl ⟨by rfl,?_⟩) ?_ ?_
        rotate_left
        ·intro w'
         go_simp
         with_reducible rfl
        rotate_left
        ·simp only [Act.put,List.setIfInBounds_toArray,List.set_cons_zero,List.set_cons_succ,i64_w,i32_w]
         rfl
        refine pure_ (i:=1) (N:=some 18) (v:=?_) (a':=?_) #[true,true,false,false,false,false,false,false,false,false] rfl rfl (any_of HT_.out (by kernel_rfl)) (fun _ _ _ h=>h) (Or.inl ⟨by rfl,?_⟩) ?_ ?_
        rotate_left
        ·intro w'
         go_simp
         with_reducible rfl
        rotate_left
        ·simp only [Act.put,List.setIfInBounds_toArray,List.set_cons_zero,List.set_cons_succ,i64_w,i32_w]
         rfl
        refine pure_ (i:=2) (N:=some 19) (v:=?_) (a':=?_) #[true,true,true,false,false,false,false,false,false,false] rfl rfl (any_of HT_.out (by kernel_rfl)) (fun _ _ _ h=>h) (Or.inl ⟨by rfl,?_⟩) ?_ ?_
        rotate_left
        ·intro w'
         go_simp
         with_reducible rfl
        rotate_left
        ·simp only [Act.put,List.setIfInBounds_toArray,List.set_cons_zero,List.set_cons_succ,i64_w,i32_w]
         rfl
        refine pure_ (i:=4) (N:=some 21) (v:=?_) (a':=?_) #[true,true,true,false,true,false,false,false,false,false] rfl rfl (any_of HT_.out (by kernel_rfl)) (fun _ _ _ h=>h) (Or.inl ⟨by rfl,?_⟩) ?_ ?_
        rotate_left
        ·intro w'
         go_simp
         with_reducible rfl
        rotate_left
        ·simp only [Act.put,List.setIfInBounds_toArray,List.set_cons_zero,List.set_cons_succ,i64_w,i32_w]
         rfl
        refine pure_ (i:=5) (N:=some 22) (v:=?_) (a':=?_) #[true,true,true,false,true,true,false,false,false,false] rfl rfl (any_of HT_.out (by kernel_rfl)) (fun _ _ _ h=>h) (Or.inl ⟨by rfl,?_⟩) ?_ ?_
        rotate_left
        ·intro w'
         go_simp
         with_reducible rfl
        rotate_left
        ·simp only [Act.put,List.setIfInBounds_toArray,List.set_cons_zero,List.set_cons_succ,i64_w,i32_w]
         rfl
        refine pure_ (i:=6) (N:=some 23) (v:=?_) (a':=?_) #[true,true,true,false,true,true,true,false,false,false] rfl rfl (any_of HT_.out (by kernel_rfl)) (fun _ _ _ h=>h) (Or.inl ⟨by rfl,?_⟩) ?_ ?_
        rotate_left
        ·intro w'
         go_simp
         with_reducible rfl
        rotate_left
        ·simp only [Act.put,List.setIfInBounds_toArray,List.set_cons_zero,List.set_cons_succ,i64_w,i32_w]
         rfl
        refine take_ (i:=3) (N:=some 20) (v:=?_) (a':=?_) #[true,true,true,true,true,true,true,false,false,false] rfl rfl (take_ofW HT_.out HW_.out (by kernel_rfl)) (fun _ _ _ h=>h) (Or.inl ⟨by rfl,?_⟩) hHeld ?_ ?_
        rotate_left
        ·rintro w' ⟨s0,s1,s2,s3⟩
         go_simp
         with_reducible rfl
        rotate_left
        ·simp only [Act.put,List.setIfInBounds_toArray,List.set_cons_zero,List.set_cons_succ,i64_w,i32_w]
         rfl
        refine take_ (i:=7) (N:=some 24) (v:=?_) (a':=?_) #[true,true,true,true,true,true,true,true,false,false] rfl rfl (take_ofW HT_.out HW_.out (by kernel_rfl)) (fun _ _ _ h=>h) (Or.inl ⟨by rfl,?_⟩) hHeld ?_ ?_
        rotate_left
        ·rintro w' ⟨s0,s1,s2,s3⟩
         go_simp
         with_reducible rfl
        rotate_left
        ·simp only [Act.put,List.setIfInBounds_toArray,List.set_cons_zero,List.set_cons_succ,i64_w,i32_w]
         rfl
        refine one_ (i:=8) (N:=some 25) #[true,true,true,true,true,true,true,true,true,false] rfl rfl (one_of HT_.out (by kernel_rfl)) (by decide) (fun K hK=>?_)
        refine goes_ Tryd.func62 (by kernel_rfl) rfl #[.agg #[.slice A318_0 ((rd_T86 l0 x5_1).f0).length c318_0,.slice A318_1 ((rd_T86 l0 x5_1).f1).length c318_1],.agg #[.slice A319_0 ((rd_T86 l1 x5_1).f0).length c319_0,.slice A319_1 ((rd_T86 l1 x5_1).f1).length c319_1]] (by rfl) rfl rfl qz2 ?_
        with_reducible refine (laws_eqPrgClause.calls k1 _ _ ((rd_T86 l0 x5_1).f0) _ _ ((rd_T86 l0 x5_1).f1) _ _ ((rd_T86 l1 x5_1).f0) _ _ ((rd_T86 l1 x5_1).f1) true _ ?side1 ?side2 ?side3 ?side4 ?side5 ?side6 ?side7 ?side8 A7.out).mono ?_
        (case side1=>exact qz150)
        (case side2=>exact HC318_0.out)
        (case side3=>exact qz149)
        (case side4=>exact HC318_1.out)
        (case side5=>exact qz148)
        (case side6=>exact HC319_0.out)
        (case side7=>exact qz147)
        (case side8=>exact HC319_1.out)
        rintro e w10 ⟨rfl,hb⟩
        refine ⟨_,rfl,?_⟩
        have n0_:=Aside0.mk (below_step qz1 hb)
        clear HB
        have HB:=n0_
        clear n0_
        (try clear hb)
        (try clear hb2)
        (try clear hk)
        (try clear hi)
        refine hK.out _ _ ⟨((HB.out.cell (World.block_lt_of_cell? w _ hw318_0)).trans hw318_0),((HB.out.cell (World.block_lt_of_cell? w _ hw318_1)).trans hw318_1),((HB.out.cell (World.block_lt_of_cell? w _ hw319_0)).trans hw319_0),((HB.out.cell (World.block_lt_of_cell? w _ hw319_1)).trans hw319_1)⟩ (fun hHeld=>?_)
        clear hK K
        refine norm_ (a':=?_) ?_ ?_
        rotate_left
        ·show Act.put _ (some 25) _=_
         simp only [Act.put,List.setIfInBounds_toArray,List.set_cons_zero,List.set_cons_succ,i64_w,i32_w]
         rfl
        refine pure_ (i:=9) (N:=some 26) (v:=?_) (a':=?_) #[true,true,true,true,true,true,true,true,true,true] rfl rfl (any_of HT_.out (by kernel_rfl)) (fun _ _ _ h=>h) (Or.inl ⟨by rfl,?_⟩) ?_ ?_
        rotate_left
        ·intro w'
         go_simp
         with_reducible rfl
        rotate_left
        ·simp only [Act.put,List.setIfInBounds_toArray,List.set_cons_zero,List.set_cons_succ,i64_w,i32_w]
         rfl
        refine done_ (done_of HT_.out (by kernel_rfl)) ?_
        try go_wp2
        go_roundg k1
        case measure=>have:=HK1.out;omega
        case rel=>exact ⟨(wrap64 (x5_1+1)),qz12,H',⟨by have:=HK1.out;omega⟩,⟨qz4⟩⟩
       ·replace c8:=Bool.eq_false_iff.mpr c8
        subst c8
        have H1:(some false)=some r:=qz23
        clear H
        have H:=H1
        clear H1
        obtain rfl:=Option.some.inj H
        try go_wp2
        have n0_:=Aside0.mk (below_drew1 HB.out)
        clear HB
        have HB:=n0_
        clear n0_
        have p318:0≤(x5_1:Int):=of_decide_eq_true qz7
        have q318:x5_1<(l0.length:Int):=of_decide_eq_true qz7
        obtain ⟨ad318,A318_0,c318_0,A318_1,c318_1,e318,hx318_0,hx318_1,hl318_0,hi318_0,hl318_1,hi318_1⟩:=at_T86 HR0.out x5_1 p318 q318
        have hw318_1:=hx318_1
        have hw318_0:=hx318_0
        cases e318
        replace hx318_0:=(HB.out.cell (World.block_lt_of_cell? w _ hx318_0)).trans hx318_0
        replace hx318_1:=(HB.out.cell (World.block_lt_of_cell? w _ hx318_1)).trans hx318_1
        have HR318_0:=Aside0.mk hi318_0
        have HC318_0:=Aside0.mk hl318_0
        clear hi318_0 hl318_0
        have HR318_1:=Aside0.mk hi318_1
        have HC318_1:=Aside0.mk hl318_1
        clear hi318_1 hl318_1
        replace p318:=eq_true p318
        replace q318:=eq_true q318
        have p319:0≤(x5_1:Int):=of_decide_eq_true qz7
        have q319:x5_1<(l1.length:Int):=of_decide_eq_true qz7
        obtain ⟨ad319,A319_0,c319_0,A319_1,c319_1,e319,hx319_0,hx319_1,hl319_0,hi319_0,hl319_1,hi319_1⟩:=at_T86 HR1.out x5_1 p319 q319
        have hw319_1:=hx319_1
        have hw319_0:=hx319_0
        cases e319
        replace hx319_0:=(HB.out.cell (World.block_lt_of_cell? w _ hx319_0)).trans hx319_0
        replace hx319_1:=(HB.out.cell (World.block_lt_of_cell? w _ hx319_1)).trans hx319_1
        have HR319_0:=Aside0.mk hi319_0
        have HC319_0:=Aside0.mk hl319_0
        clear hi319_0 hl319_0
        have HR319_1:=Aside0.mk hi319_1
        have HC319_1:=Aside0.mk hl319_1
        clear hi319_1 hl319_1
        replace p319:=eq_true p319
        replace q319:=eq_true q319
        refine start_ (n:=10) (S:=fun w'=>w'.cell? (ad318.add ((x5_1).toNat * 2))=some (.slice A318_0 ((rd_T86 l0 x5_1).f0).length c318_0)∧w'.cell? ⟨(ad318.add ((x5_1).toNat * 2)).block,(ad318.add ((x5_1).toNat * 2)).off+1,none⟩=some (.slice A318_1 ((rd_T86 l0 x5_1).f1).length c318_1)∧w'.cell? (ad319.add ((x5_1).toNat * 2))=some (.slice A319_0 ((rd_T86 l1 x5_1).f0).length c319_0)∧w'.cell? ⟨(ad319.add ((x5_1).toNat * 2)).block,(ad319.add ((x5_1).toNat * 2)).off+1,none⟩=some (.slice A319_1 ((rd_T86 l1 x5_1).f1).length c319_1)) (ds:=[]) #[false,false,false,false,false,false,false,false,false,false] (by kernel_rfl) rfl rfl ⟨((HB.out.cell (World.block_lt_of_cell? w _ hw318_0)).trans hw318_0),((HB.out.cell (World.block_lt_of_cell? w _ hw318_1)).trans hw318_1),((HB.out.cell (World.block_lt_of_cell? w _ hw319_0)).trans hw319_0),((HB.out.cell (World.block_lt_of_cell? w _ hw319_1)).trans hw319_1)⟩ (fun hHeld=>?_);refine with_tabW laws_eqPrgClauseS.tab6 laws_eqPrgClauseS.bits6 (fun HT_ HW_=>?_)
        generalize wr.drew=w11 at HB HR318_0 HR318_1 HR319_0 HR319_1 hx318_0 hx318_1 hx319_0 hx319_1 hHeld ⊢
        refine pure_ (i:=0) (N:=some 17) (v:=?_) (a':=?_) #[true,false,false,false,false,false,false,false,false,false] rfl rfl (any_of HT_.out (by kernel_rfl)) (fun _ _ _ h=>h) (Or.inl ⟨by rfl,?_⟩) ?_ ?_
        rotate_left
        ·intro w'
         go_simp
         with_reducible rfl
        rotate_left
        ·simp only [Act.put,List.setIfInBounds_toArray,List.set_cons_zero,List.set_cons_succ,i64_w,i32_w]
         rfl
        refine pure_ (i:=1) (N:=some 18) (v:=?_) (a':=?_) #[true,true,false,false,false,false,false,false,false,false] rfl rfl (any_of HT_.out (by kernel_rfl)) (fun _ _ _ h=>h) (Or.inl ⟨by rfl,?_⟩) ?_ ?_
        rotate_left
        ·intro w'
         go_simp
         with_reducible rfl
        rotate_left
        ·simp only [Act.put,List.setIfInBounds_toArray,List.set_cons_zero,List.set_cons_succ,i64_w,i32_w]
         rfl
        refine pure_ (i:=2) (N:=some 19) (v:=?_) (a':=?_) #[true,true,true,false,false,false,false,false,false,false] rfl rfl (any_of HT_.out (by kernel_rfl)) (fun _ _ _ h=>h) (Or.inl ⟨by rfl,?_⟩) ?_ ?_
        rotate_left
        ·intro w'
         go_simp
         with_reducible rfl
        rotate_left
        ·simp only [Act.put,List.setIfInBounds_toArray,List.set_cons_zero,List.set_cons_succ,i64_w,i32_w]
         rfl
        refine pure_ (i:=4) (N:=some 21) (v:=?_) (a':=?_) #[true,true,true,false,true,false,false,false,false,false] rfl rfl (any_of HT_.out (by kernel_rfl)) (fun _ _ _ h=>h) (Or.inl ⟨by rfl,?_⟩) ?_ ?_
        rotate_left
        ·intro w'
         go_simp
         with_reducible rfl
        rotate_left
        ·simp only [Act.put,List.setIfInBounds_toArray,List.set_cons_zero,List.set_cons_succ,i64_w,i32_w]
         rfl
        refine pure_ (i:=5) (N:=some 22) (v:=?_) (a':=?_) #[true,true,true,false,true,true,false,false,false,false] rfl rfl (any_of HT_.out (by kernel_rfl)) (fun _ _ _ h=>h) (Or.inl ⟨by rfl,?_⟩) ?_ ?_
        rotate_left
        ·intro w'
         go_simp
         with_reducible rfl
        rotate_left
        ·simp only [Act.put,List.setIfInBounds_toArray,List.set_cons_zero,List.set_cons_succ,i64_w,i32_w]
         rfl
        refine pure_ (i:=6) (N:=some 23) (v:=?_) (a':=?_) #[true,true,true,false,true,true,true,false,false,false] rfl rfl (any_of HT_.out (by kernel_rfl)) (fun _ _ _ h=>h) (Or.inl ⟨by rfl,?_⟩) ?_ ?_
        rotate_left
        ·intro w'
         go_simp
         with_reducible rfl
        rotate_left
        ·simp only [Act.put,List.setIfInBounds_toArray,List.set_cons_zero,List.set_cons_succ,i64_w,i32_w]
         rfl
        refine take_ (i:=3) (N:=some 20) (v:=?_) (a':=?_) #[true,true,true,true,true,true,true,false,false,false] rfl rfl (take_ofW HT_.out HW_.out (by kernel_rfl)) (fun _ _ _ h=>h) (Or.inl ⟨by rfl,?_⟩) hHeld ?_ ?_
        rotate_left
        ·rintro w' ⟨s0,s1,s2,s3⟩
         go_simp
         with_reducible rfl
        rotate_left
        ·simp only [Act.put,List.setIfInBounds_toArray,List.set_cons_zero,List.set_cons_succ,i64_w,i32_w]
         rfl
        refine take_ (i:=7) (N:=some 24) (v:=?_) (a':=?_) #[true,true,true,true,true,true,true,true,false,false] rfl rfl (take_ofW HT_.out HW_.out (by kernel_rfl)) (fun _ _ _ h=>h) (Or.inl ⟨by rfl,?_⟩) hHeld ?_ ?_
        rotate_left
        ·rintro w' ⟨s0,s1,s2,s3⟩
         go_simp
         with_reducible rfl
        rotate_left
        ·simp only [Act.put,List.setIfInBounds_toArray,List.set_cons_zero,List.set_cons_succ,i64_w,i32_w]
         rfl
        refine one_ (i:=8) (N:=some 25) #[true,true,true,true,true,true,true,true,true,false] rfl rfl (one_of HT_.out (by kernel_rfl)) (by decide) (fun K hK=>?_)
        refine goes_ Tryd.func62 (by kernel_rfl) rfl #[.agg #[.slice A318_0 ((rd_T86 l0 x5_1).f0).length c318_0,.slice A318_1 ((rd_T86 l0 x5_1).f1).length c318_1],.agg #[.slice A319_0 ((rd_T86 l1 x5_1).f0).length c319_0,.slice A319_1 ((rd_T86 l1 x5_1).f1).length c319_1]] (by rfl) rfl rfl qz2 ?_
        with_reducible refine (laws_eqPrgClause.calls k1 _ _ ((rd_T86 l0 x5_1).f0) _ _ ((rd_T86 l0 x5_1).f1) _ _ ((rd_T86 l1 x5_1).f0) _ _ ((rd_T86 l1 x5_1).f1) false _ ?side1 ?side2 ?side3 ?side4 ?side5 ?side6 ?side7 ?side8 A7.out).mono ?_
        (case side1=>exact qz150)
        (case side2=>exact HC318_0.out)
        (case side3=>exact qz149)
        (case side4=>exact HC318_1.out)
        (case side5=>exact qz148)
        (case side6=>exact HC319_0.out)
        (case side7=>exact qz147)
        (case side8=>exact HC319_1.out)
        rintro e w12 ⟨rfl,hb⟩
        refine ⟨_,rfl,?_⟩
        have n0_:=Aside0.mk (below_step qz1 hb)
        clear HB
        have HB:=n0_
        clear n0_
        (try clear hb)
        (try clear hb2)
        (try clear hk)
        (try clear hi)
        refine hK.out _ _ ⟨((HB.out.cell (World.block_lt_of_cell? w _ hw318_0)).trans hw318_0),((HB.out.cell (World.block_lt_of_cell? w _ hw318_1)).trans hw318_1),((HB.out.cell (World.block_lt_of_cell? w _ hw319_0)).trans hw319_0),((HB.out.cell (World.block_lt_of_cell? w _ hw319_1)).trans hw319_1)⟩ (fun hHeld=>?_)
        clear hK K
        refine norm_ (a':=?_) ?_ ?_
        rotate_left
        ·show Act.put _ (some 25) _=_
         simp only [Act.put,List.setIfInBounds_toArray,List.set_cons_zero,List.set_cons_succ,i64_w,i32_w]
         rfl
        refine pure_ (i:=9) (N:=some 26) (v:=?_) (a':=?_) #[true,true,true,true,true,true,true,true,true,true] rfl rfl (any_of HT_.out (by kernel_rfl)) (fun _ _ _ h=>h) (Or.inl ⟨by rfl,?_⟩) ?_ ?_
        rotate_left
        ·intro w'
         go_simp
         with_reducible rfl
        rotate_left
        ·simp only [Act.put,List.setIfInBounds_toArray,List.set_cons_zero,List.set_cons_succ,i64_w,i32_w]
         rfl
        refine done_ (done_of HT_.out (by kernel_rfl)) ?_
        try go_wp2
        go_ret
        exact ⟨qz3,qz4⟩
      ·rw [if_neg c6] at H
       exact absurd H (by simp)
     ·rw [if_neg c5] at H
      exact absurd H (by simp)
    ·rw [if_neg c4] at H
     have c4b0:decide (x5_1<(l0.length:Int))=false:=decide_eq_false c4
     clear c4
     obtain rfl:=Option.some.inj H
     go_wp2
     go_ret
     exact ⟨qz3,qz4⟩
 ·rw [if_neg c3] at H
  have c3b0:((l0.length:Int) == (l1.length:Int))=false:=beq_eq_false_iff_ne.mpr c3
  have c3b1:((l0.length:Int) != (l1.length:Int))=true:=bne_iff_ne.mpr c3
  have c3b2:(l0.length == l1.length)=false:=qz134
  obtain rfl:=Option.some.inj H
  go_enter Tryd.func39,Tryd.ntmps39
  go_wp2
  go_ret
  exact ⟨qz3,qz4⟩

/-! ### laws_eqPrgPlace: function 63 -/
def laws_eqPrgPlace.f (a0_0:ByteArray) (a0_1:Int) (a0_2:Int) (a1_0:ByteArray) (a1_1:Int) (a1_2:Int):Option (Bool):=if a0_0.toList=a1_0.toList then (if a0_1=a1_1 then (if a0_2=a1_2 then (some true) else (some false)) else (some false)) else (some false)
set_option maxHeartbeats 8000000 in
set_option maxRecDepth 100000 in
theorem laws_eqPrgPlace.calls (a0_0:ByteArray) (a0_1:Int) (a0_2:Int) (a1_0:ByteArray) (a1_1:Int) (a1_2:Int) (r:Bool) (w:World) (h:laws_eqPrgPlace.f a0_0 a0_1 a0_2 a1_0 a1_1 a1_2=some r) :
  Calls Tryd.prog 63 #[.agg #[.string a0_0,.int .i64 a0_1,.int .i64 a0_2],.agg #[.string a1_0,.int .i64 a1_1,.int .i64 a1_2]] w fun e w'=>e = .returned (.bool r)∧Below w.heap.size w w':=by
 have hu88:=Tryd.underlying88
 have HB:=Aside0.mk (Below.refl w.heap.size w)
 have H:(if a0_0.toList=a1_0.toList then (if a0_1=a1_1 then (if a0_2=a1_2 then (some true) else (some false)) else (some false)) else (some false))=some r:=h
 clear h
 by_cases c3:a0_0.toList=a1_0.toList
 ·rw [if_pos c3] at H
  have c3b0:(a0_0.toList == a1_0.toList)=true:=beq_iff_eq.mpr c3
  have c3b1:(a0_0.toList != a1_0.toList)=false:=bne_eq_false_iff_eq.mpr c3
  clear c3
  by_cases c4:a0_1=a1_1
  ·rw [if_pos c4] at H
   have c4b0:(a0_1 == a1_1)=true:=beq_iff_eq.mpr c4
   have c4b1:(a0_1 != a1_1)=false:=bne_eq_false_iff_eq.mpr c4
   clear c4
   by_cases c5:a0_2=a1_2
   ·rw [if_pos c5] at H
    have c5b0:(a0_2 == a1_2)=true:=beq_iff_eq.mpr c5
    have c5b1:(a0_2 != a1_2)=false:=bne_eq_false_iff_eq.mpr c5
    clear c5
    obtain rfl:=Option.some.inj H
    go_enter Tryd.func63,Tryd.ntmps63
    go_wp2_with (first|((with_reducible refine gate_dst (N:=2) rfl ?_);refine box_event ?hg (N:=2) ?hd (cs:=#[.string a0_0,.int .i64 a0_1,.int .i64 a0_2]) (t:=88) ?hr ?_;(case hd=>rfl);(case hg=>rfl);(case hr=>first|(go_simp;done)|(go_simp;rfl));intro gb321 hg w6 hbox hb;have n0_:=Aside0.mk (below_step qz1 hb);have n1_:=Aside0.mk (hbox);have n2_:=Aside0.mk ((by rw [hg];exact (below_size qz1):w.heap.size≤gb321));have n3_:=Aside0.mk ((by rw [hg];exact (below_size qz1):w.heap.size≤gb321));clear HB;have HB:=n0_;have BK321:=n1_;have GW321:=n2_;have GE321:=n3_;clear n0_ n1_ n2_ n3_ hb hbox hg)|((with_reducible refine gate_dst (N:=3) rfl ?_);refine box_event ?hg (N:=3) ?hd (cs:=#[.string a1_0,.int .i64 a1_1,.int .i64 a1_2]) (t:=88) ?hr ?_;(case hd=>rfl);(case hg=>rfl);(case hr=>first|(go_simp;done)|(go_simp;rfl));intro gb322 hg w7 hbox hb;have n0_:=Aside0.mk (blk_below (g:=gb321) (o:=.cells #[.string a0_0,.int .i64 a0_1,.int .i64 a0_2] 88 (0,0)) qz59 hb);have n1_:=Aside0.mk (below_step qz42 hb);have n2_:=Aside0.mk (hbox);have n3_:=Aside0.mk ((by rw [hg];exact (below_size qz42):w.heap.size≤gb322));have n4_:=Aside0.mk ((by rw [hg];exact (below_size qz42):w.heap.size≤gb322));have n5_:=Aside0.mk ((by rw [hg];exact Nat.ne_of_lt (blk_lt (g:=gb321) (o:=.cells #[.string a0_0,.int .i64 a0_1,.int .i64 a0_2] 88 (0,0)) qz59):gb321≠gb322));have n6_:=Aside0.mk ((by rw [hg];exact Nat.ne_of_gt (blk_lt (g:=gb321) (o:=.cells #[.string a0_0,.int .i64 a0_1,.int .i64 a0_2] 88 (0,0)) qz59):gb322≠gb321));clear BK321 HB;have BK321:=n0_;have HB:=n1_;have BK322:=n2_;have GW322:=n3_;have GE322:=n4_;have NB321_322:=n5_;have NB322_321:=n6_;clear n0_ n1_ n2_ n3_ n4_ n5_ n6_ hb hbox hg;have hnb8:=NB321_322.out;have hnc8:=NB322_321.out;have hcz9_0:w7.cell? ⟨gb321,0,none⟩=some (.string a0_0):=(blk_cell BK321.out 0).trans rfl;have hcz9_1:w7.cell? ⟨gb321,1,none⟩=some (.int .i64 a0_1):=(blk_cell BK321.out 1).trans rfl;have hcz9_2:w7.cell? ⟨gb321,2,none⟩=some (.int .i64 a0_2):=(blk_cell BK321.out 2).trans rfl;have hfz9_0:=blk_frozen BK321.out 0;have hfz9_1:=blk_frozen BK321.out 1;have hfz9_2:=blk_frozen BK321.out 2;have hcz10_0:w7.cell? ⟨gb322,0,none⟩=some (.string a1_0):=(blk_cell BK322.out 0).trans rfl;have hcz10_1:w7.cell? ⟨gb322,1,none⟩=some (.int .i64 a1_1):=(blk_cell BK322.out 1).trans rfl;have hcz10_2:w7.cell? ⟨gb322,2,none⟩=some (.int .i64 a1_2):=(blk_cell BK322.out 2).trans rfl;have hfz10_0:=blk_frozen BK322.out 0;have hfz10_1:=blk_frozen BK322.out 1;have hfz10_2:=blk_frozen BK322.out 2))
    go_ret
    exact ⟨qz3,qz90⟩
   ·rw [if_neg c5] at H
    have c5b0:(a0_2 == a1_2)=false:=beq_eq_false_iff_ne.mpr c5
    have c5b1:(a0_2 != a1_2)=true:=bne_iff_ne.mpr c5
    obtain rfl:=Option.some.inj H
    go_enter Tryd.func63,Tryd.ntmps63
    go_wp2_with (first|((with_reducible refine gate_dst (N:=2) rfl ?_);refine box_event ?hg (N:=2) ?hd (cs:=#[.string a0_0,.int .i64 a0_1,.int .i64 a0_2]) (t:=88) ?hr ?_;(case hd=>rfl);(case hg=>rfl);(case hr=>first|(go_simp;done)|(go_simp;rfl));intro gb321 hg w11 hbox hb;have n0_:=Aside0.mk (below_step qz1 hb);have n1_:=Aside0.mk (hbox);have n2_:=Aside0.mk ((by rw [hg];exact (below_size qz1):w.heap.size≤gb321));have n3_:=Aside0.mk ((by rw [hg];exact (below_size qz1):w.heap.size≤gb321));clear HB;have HB:=n0_;have BK321:=n1_;have GW321:=n2_;have GE321:=n3_;clear n0_ n1_ n2_ n3_ hb hbox hg)|((with_reducible refine gate_dst (N:=3) rfl ?_);refine box_event ?hg (N:=3) ?hd (cs:=#[.string a1_0,.int .i64 a1_1,.int .i64 a1_2]) (t:=88) ?hr ?_;(case hd=>rfl);(case hg=>rfl);(case hr=>first|(go_simp;done)|(go_simp;rfl));intro gb322 hg w12 hbox hb;have n0_:=Aside0.mk (blk_below (g:=gb321) (o:=.cells #[.string a0_0,.int .i64 a0_1,.int .i64 a0_2] 88 (0,0)) qz59 hb);have n1_:=Aside0.mk (below_step qz42 hb);have n2_:=Aside0.mk (hbox);have n3_:=Aside0.mk ((by rw [hg];exact (below_size qz42):w.heap.size≤gb322));have n4_:=Aside0.mk ((by rw [hg];exact (below_size qz42):w.heap.size≤gb322));have n5_:=Aside0.mk ((by rw [hg];exact Nat.ne_of_lt (blk_lt (g:=gb321) (o:=.cells #[.string a0_0,.int .i64 a0_1,.int .i64 a0_2] 88 (0,0)) qz59):gb321≠gb322));have n6_:=Aside0.mk ((by rw [hg];exact Nat.ne_of_gt (blk_lt (g:=gb321) (o:=.cells #[.string a0_0,.int .i64 a0_1,.int .i64 a0_2] 88 (0,0)) qz59):gb322≠gb321));clear BK321 HB;have BK321:=n0_;have HB:=n1_;have BK322:=n2_;have GW322:=n3_;have GE322:=n4_;have NB321_322:=n5_;have NB322_321:=n6_;clear n0_ n1_ n2_ n3_ n4_ n5_ n6_ hb hbox hg;have hnb13:=NB321_322.out;have hnc13:=NB322_321.out;have hcz14_0:w12.cell? ⟨gb321,0,none⟩=some (.string a0_0):=(blk_cell BK321.out 0).trans rfl;have hcz14_1:w12.cell? ⟨gb321,1,none⟩=some (.int .i64 a0_1):=(blk_cell BK321.out 1).trans rfl;have hcz14_2:w12.cell? ⟨gb321,2,none⟩=some (.int .i64 a0_2):=(blk_cell BK321.out 2).trans rfl;have hfz14_0:=blk_frozen BK321.out 0;have hfz14_1:=blk_frozen BK321.out 1;have hfz14_2:=blk_frozen BK321.out 2;have hcz15_0:w12.cell? ⟨gb322,0,none⟩=some (.string a1_0):=(blk_cell BK322.out 0).trans rfl;have hcz15_1:w12.cell? ⟨gb322,1,none⟩=some (.int .i64 a1_1):=(blk_cell BK322.out 1).trans rfl;have hcz15_2:w12.cell? ⟨gb322,2,none⟩=some (.int .i64 a1_2):=(blk_cell BK322.out 2).trans rfl;have hfz15_0:=blk_frozen BK322.out 0;have hfz15_1:=blk_frozen BK322.out 1;have hfz15_2:=blk_frozen BK322.out 2))
    go_ret
    exact ⟨qz3,qz90⟩
  ·rw [if_neg c4] at H
   have c4b0:(a0_1 == a1_1)=false:=beq_eq_false_iff_ne.mpr c4
   have c4b1:(a0_1 != a1_1)=true:=bne_iff_ne.mpr c4
   obtain rfl:=Option.some.inj H
   go_enter Tryd.func63,Tryd.ntmps63
   go_wp2_with (first|((with_reducible refine gate_dst (N:=2) rfl ?_);refine box_event ?hg (N:=2) ?hd (cs:=#[.string a0_0,.int .i64 a0_1,.int .i64 a0_2]) (t:=88) ?hr ?_;(case hd=>rfl);(case hg=>rfl);(case hr=>first|(go_simp;done)|(go_simp;rfl));intro gb321 hg w16 hbox hb;have n0_:=Aside0.mk (below_step qz1 hb);have n1_:=Aside0.mk (hbox);have n2_:=Aside0.mk ((by rw [hg];exact (below_size qz1):w.heap.size≤gb321));have n3_:=Aside0.mk ((by rw [hg];exact (below_size qz1):w.heap.size≤gb321));clear HB;have HB:=n0_;have BK321:=n1_;have GW321:=n2_;have GE321:=n3_;clear n0_ n1_ n2_ n3_ hb hbox hg)|((with_reducible refine gate_dst (N:=3) rfl ?_);refine box_event ?hg (N:=3) ?hd (cs:=#[.string a1_0,.int .i64 a1_1,.int .i64 a1_2]) (t:=88) ?hr ?_;(case hd=>rfl);(case hg=>rfl);(case hr=>first|(go_simp;done)|(go_simp;rfl));intro gb322 hg w17 hbox hb;have n0_:=Aside0.mk (blk_below (g:=gb321) (o:=.cells #[.string a0_0,.int .i64 a0_1,.int .i64 a0_2] 88 (0,0)) qz59 hb);have n1_:=Aside0.mk (below_step qz42 hb);have n2_:=Aside0.mk (hbox);have n3_:=Aside0.mk ((by rw [hg];exact (below_size qz42):w.heap.size≤gb322));have n4_:=Aside0.mk ((by rw [hg];exact (below_size qz42):w.heap.size≤gb322));have n5_:=Aside0.mk ((by rw [hg];exact Nat.ne_of_lt (blk_lt (g:=gb321) (o:=.cells #[.string a0_0,.int .i64 a0_1,.int .i64 a0_2] 88 (0,0)) qz59):gb321≠gb322));have n6_:=Aside0.mk ((by rw [hg];exact Nat.ne_of_gt (blk_lt (g:=gb321) (o:=.cells #[.string a0_0,.int .i64 a0_1,.int .i64 a0_2] 88 (0,0)) qz59):gb322≠gb321));clear BK321 HB;have BK321:=n0_;have HB:=n1_;have BK322:=n2_;have GW322:=n3_;have GE322:=n4_;have NB321_322:=n5_;have NB322_321:=n6_;clear n0_ n1_ n2_ n3_ n4_ n5_ n6_ hb hbox hg;have hnb18:=NB321_322.out;have hnc18:=NB322_321.out;have hcz19_0:w17.cell? ⟨gb321,0,none⟩=some (.string a0_0):=(blk_cell BK321.out 0).trans rfl;have hcz19_1:w17.cell? ⟨gb321,1,none⟩=some (.int .i64 a0_1):=(blk_cell BK321.out 1).trans rfl;have hcz19_2:w17.cell? ⟨gb321,2,none⟩=some (.int .i64 a0_2):=(blk_cell BK321.out 2).trans rfl;have hfz19_0:=blk_frozen BK321.out 0;have hfz19_1:=blk_frozen BK321.out 1;have hfz19_2:=blk_frozen BK321.out 2;have hcz20_0:w17.cell? ⟨gb322,0,none⟩=some (.string a1_0):=(blk_cell BK322.out 0).trans rfl;have hcz20_1:w17.cell? ⟨gb322,1,none⟩=some (.int .i64 a1_1):=(blk_cell BK322.out 1).trans rfl;have hcz20_2:w17.cell? ⟨gb322,2,none⟩=some (.int .i64 a1_2):=(blk_cell BK322.out 2).trans rfl;have hfz20_0:=blk_frozen BK322.out 0;have hfz20_1:=blk_frozen BK322.out 1;have hfz20_2:=blk_frozen BK322.out 2))
   go_ret
   exact ⟨qz3,qz90⟩
 ·rw [if_neg c3] at H
  have c3b0:(a0_0.toList == a1_0.toList)=false:=beq_eq_false_iff_ne.mpr c3
  have c3b1:(a0_0.toList != a1_0.toList)=true:=bne_iff_ne.mpr c3
  obtain rfl:=Option.some.inj H
  go_enter Tryd.func63,Tryd.ntmps63
  go_wp2_with (first|((with_reducible refine gate_dst (N:=2) rfl ?_);refine box_event ?hg (N:=2) ?hd (cs:=#[.string a0_0,.int .i64 a0_1,.int .i64 a0_2]) (t:=88) ?hr ?_;(case hd=>rfl);(case hg=>rfl);(case hr=>first|(go_simp;done)|(go_simp;rfl));intro gb321 hg w21 hbox hb;have n0_:=Aside0.mk (below_step qz1 hb);have n1_:=Aside0.mk (hbox);have n2_:=Aside0.mk ((by rw [hg];exact (below_size qz1):w.heap.size≤gb321));have n3_:=Aside0.mk ((by rw [hg];exact (below_size qz1):w.heap.size≤gb321));clear HB;have HB:=n0_;have BK321:=n1_;have GW321:=n2_;have GE321:=n3_;clear n0_ n1_ n2_ n3_ hb hbox hg)|((with_reducible refine gate_dst (N:=3) rfl ?_);refine box_event ?hg (N:=3) ?hd (cs:=#[.string a1_0,.int .i64 a1_1,.int .i64 a1_2]) (t:=88) ?hr ?_;(case hd=>rfl);(case hg=>rfl);(case hr=>first|(go_simp;done)|(go_simp;rfl));intro gb322 hg w22 hbox hb;have n0_:=Aside0.mk (blk_below (g:=gb321) (o:=.cells #[.string a0_0,.int .i64 a0_1,.int .i64 a0_2] 88 (0,0)) qz59 hb);have n1_:=Aside0.mk (below_step qz42 hb);have n2_:=Aside0.mk (hbox);have n3_:=Aside0.mk ((by rw [hg];exact (below_size qz42):w.heap.size≤gb322));have n4_:=Aside0.mk ((by rw [hg];exact (below_size qz42):w.heap.size≤gb322));have n5_:=Aside0.mk ((by rw [hg];exact Nat.ne_of_lt (blk_lt (g:=gb321) (o:=.cells #[.string a0_0,.int .i64 a0_1,.int .i64 a0_2] 88 (0,0)) qz59):gb321≠gb322));have n6_:=Aside0.mk ((by rw [hg];exact Nat.ne_of_gt (blk_lt (g:=gb321) (o:=.cells #[.string a0_0,.int .i64 a0_1,.int .i64 a0_2] 88 (0,0)) qz59):gb322≠gb321));clear BK321 HB;have BK321:=n0_;have HB:=n1_;have BK322:=n2_;have GW322:=n3_;have GE322:=n4_;have NB321_322:=n5_;have NB322_321:=n6_;clear n0_ n1_ n2_ n3_ n4_ n5_ n6_ hb hbox hg;have hnb23:=NB321_322.out;have hnc23:=NB322_321.out;have hcz24_0:w22.cell? ⟨gb321,0,none⟩=some (.string a0_0):=(blk_cell BK321.out 0).trans rfl;have hcz24_1:w22.cell? ⟨gb321,1,none⟩=some (.int .i64 a0_1):=(blk_cell BK321.out 1).trans rfl;have hcz24_2:w22.cell? ⟨gb321,2,none⟩=some (.int .i64 a0_2):=(blk_cell BK321.out 2).trans rfl;have hfz24_0:=blk_frozen BK321.out 0;have hfz24_1:=blk_frozen BK321.out 1;have hfz24_2:=blk_frozen BK321.out 2;have hcz25_0:w22.cell? ⟨gb322,0,none⟩=some (.string a1_0):=(blk_cell BK322.out 0).trans rfl;have hcz25_1:w22.cell? ⟨gb322,1,none⟩=some (.int .i64 a1_1):=(blk_cell BK322.out 1).trans rfl;have hcz25_2:w22.cell? ⟨gb322,2,none⟩=some (.int .i64 a1_2):=(blk_cell BK322.out 2).trans rfl;have hfz25_0:=blk_frozen BK322.out 0;have hfz25_1:=blk_frozen BK322.out 1;have hfz25_2:=blk_frozen BK322.out 2))
  go_ret
  exact ⟨qz3,qz90⟩

end Go.Proofs.YtepkgjcobocbpaaDoor.P
