/- Contracts of functions of the program: each as a Lean function, and that its call does what that says; printed by cprint.py (this session) over print.py of the kit. Conditions: the hypotheses of each theorem. -/
import Derived.Test.YtepkgjcobocbpaaDoorVZ
import Derived.Test.YtepkgjcobocbpaaDoorP0
import Derived.Test.YtepkgjcobocbpaaDoorP14
namespace Go.Proofs.YtepkgjcobocbpaaDoor.P
open Go.RowKit Go.Proofs.YtepkgjcobocbpaaDoorW.PrintWords Go.Proofs.YtepkgjcobocbpaaDoorW.PrintLast Go.Proofs.YtepkgjcobocbpaaDoorW.PrintMore
attribute [local go_sem] max2_int min2_int max_two min_two max_three min_three max_four min_four   -- for this text's walks alone
set_option linter.unusedVariables false
set_option linter.unusedSimpArgs false

/-! ### laws_eqPrgGoalS: function 82 -/
def laws_eqPrgGoalS.l0:Nat→List (S42)→List (S42)→Int→Option (Bool)
 | 0,_,_,_=>none
 | k+1,x0,x1,x5=>if x5<(x0.length:Int) then (if 0≤x5 then (if x5<(x1.length:Int) then ((laws_eqPrgGoal.f k ((rd_T42 x0 x5).f0) ((rd_T42 x0 x5).f1) ((rd_T42 x0 x5).f2) ((rd_T42 x0 x5).f3) ((rd_T42 x1 x5).f0) ((rd_T42 x1 x5).f1) ((rd_T42 x1 x5).f2) ((rd_T42 x1 x5).f3)).bind fun t313=>(if t313=true then (laws_eqPrgGoalS.l0 k x0 x1 (wrap64 (x5+1))) else (some false))) else (none)) else (none)) else (some true)
def laws_eqPrgGoalS.f (k:Nat) (l0:List (S42)) (l1:List (S42)):Option (Bool):=if (l0.length:Int)=(l1.length:Int) then (laws_eqPrgGoalS.l0 k l0 l1 0) else (some false)
def laws_eqPrgGoalS.T6:Bool × List (List Nat × List Nat):=(true,[([],[]),([],[]),([0,1],[0,1]),([2],[2]),([],[]),([],[]),([4,5],[4,5]),([6],[6]),([3,7],[3,7]),([8],[8])])
def laws_eqPrgGoalS.B6:List Nat:=[0,0,3,7,0,0,48,112,255,511]
theorem laws_eqPrgGoalS.tab6:rtab .any (opsOf Tryd.f82 6)=laws_eqPrgGoalS.T6:=by kernel_rfl
theorem laws_eqPrgGoalS.bits6:waitsOk laws_eqPrgGoalS.T6.2 laws_eqPrgGoalS.B6=true:=by kernel_rfl
set_option maxHeartbeats 8000000 in
set_option maxRecDepth 100000 in
theorem laws_eqPrgGoalS.calls (k:Nat) (A0:Option Addr) (c0:Nat) (l0:List (S42)) (A1:Option Addr) (c1:Nat) (l1:List (S42)) (r:Bool) (w:World) (hr0:Kd.C k42 w A0 l0.length l0) (hc0:l0.length≤c0) (hr1:Kd.C k42 w A1 l1.length l1) (hc1:l1.length≤c1) (h:laws_eqPrgGoalS.f k l0 l1=some r) :
  Calls Tryd.prog 82 #[.slice A0 l0.length c0,.slice A1 l1.length c1] w fun e w'=>e = .returned (.bool r)∧Below w.heap.size w w':=by
 have hu42:=Tryd.underlying42
 have HR0:=Aside0.mk hr0
 have HC0:=Aside0.mk hc0
 clear hr0 hc0
 have HR1:=Aside0.mk hr1
 have HC1:=Aside0.mk hc1
 clear hr1 hc1
 have HB:=Aside0.mk (Below.refl w.heap.size w)
 have H:(if (l0.length:Int)=(l1.length:Int) then (laws_eqPrgGoalS.l0 k l0 l1 0) else (some false))=some r:=h
 clear h
 by_cases c3:(l0.length:Int)=(l1.length:Int)
 ·rw [if_pos c3] at H
  have c3b0:((l0.length:Int) == (l1.length:Int))=true:=beq_iff_eq.mpr c3
  have c3b1:((l0.length:Int) != (l1.length:Int))=false:=bne_eq_false_iff_eq.mpr c3
  have c3b2:(l0.length == l1.length)=true:=qz134
  clear c3
  have H':=Aside0.mk H
  clear H
  go_enter Tryd.func82,Tryd.ntmps82
  go_wp2
  go_loopg [5] k (fun kq v5 w'=>∃ (x5_1:Int),v5 = .int .i64 x5_1∧Aside0 (laws_eqPrgGoalS.l0 kq l0 l1 x5_1=some r)∧Aside0 (kq≤k)∧Aside0 (Below w.heap.size w w'))
  case atStart=>exact ⟨(0),qz12,H',⟨Nat.le_refl _⟩,⟨qz4⟩⟩
  case round=>
   clear H'
   try clear c1
   try clear p2
   try clear c3
   try clear c3b0
   try clear c3b1
   try clear c3b2
   obtain ⟨x5_1,rfl,HA,HK1,HB⟩:=hrel
   cases gk with
   | zero=>exact absurd HA.out (by simp [laws_eqPrgGoalS.l0])
   | succ k1=>
    have H:=HA.out
    clear HA
    simp only [laws_eqPrgGoalS.l0] at H
    by_cases c4:x5_1<(l0.length:Int)
    ·rw [if_pos c4] at H
     have c4b0:decide (x5_1<(l0.length:Int))=true:=decide_eq_true c4
     clear c4
     by_cases c5:0≤x5_1
     ·rw [if_pos c5] at H
      have c5b0:decide (0≤x5_1)=true:=decide_eq_true c5
      clear c5
      by_cases c6:x5_1<(l1.length:Int)
      ·rw [if_pos c6] at H
       have c6b0:decide (x5_1<(l1.length:Int))=true:=decide_eq_true c6
       clear c6
       replace H:=Option.bind_eq_some_iff.mp H
       obtain ⟨t313,A70,H⟩:=H
       try dsimp only at H
       have A7:=Aside0.mk A70
       clear A70
       by_cases c8:t313=true
       ·subst c8
        have H1:(laws_eqPrgGoalS.l0 k1 l0 l1 (wrap64 (x5_1+1)))=some r:=qz51
        clear H
        have H:=H1
        clear H1
        have H':=Aside0.mk H
        clear H
        try go_wp2
        have n0_:=Aside0.mk (below_drew1 HB.out)
        clear HB
        have HB:=n0_
        clear n0_
        have p311:0≤(x5_1:Int):=of_decide_eq_true qz7
        have q311:x5_1<(l0.length:Int):=of_decide_eq_true qz7
        obtain ⟨ad311,A311_1,c311_1,A311_2,c311_2,A311_3,c311_3,e311,hx311_0,hx311_1,hx311_2,hx311_3,hl311_1,hi311_1,hl311_2,hi311_2,hl311_3,hi311_3⟩:=at_T42 HR0.out x5_1 p311 q311
        have hw311_3:=hx311_3
        have hw311_2:=hx311_2
        have hw311_1:=hx311_1
        have hw311_0:=hx311_0
        cases e311
        replace hx311_0:=(HB.out.cell (World.block_lt_of_cell? w _ hx311_0)).trans hx311_0
        replace hx311_1:=(HB.out.cell (World.block_lt_of_cell? w _ hx311_1)).trans hx311_1
        replace hx311_2:=(HB.out.cell (World.block_lt_of_cell? w _ hx311_2)).trans hx311_2
        replace hx311_3:=(HB.out.cell (World.block_lt_of_cell? w _ hx311_3)).trans hx311_3
        have HR311_1:=Aside0.mk hi311_1
        have HC311_1:=Aside0.mk hl311_1
        clear hi311_1 hl311_1
        have HR311_2:=Aside0.mk hi311_2
        have HC311_2:=Aside0.mk hl311_2
        clear hi311_2 hl311_2
        have HR311_3:=Aside0.mk hi311_3
        have HC311_3:=Aside0.mk hl311_3
        clear hi311_3 hl311_3
        replace p311:=eq_true p311
        replace q311:=eq_true q311
        have p312:0≤(x5_1:Int):=of_decide_eq_true qz7
        have q312:x5_1<(l1.length:Int):=of_decide_eq_true qz7
        obtain ⟨ad312,A312_1,c312_1,A312_2,c312_2,A312_3,c312_3,e312,hx312_0,hx312_1,hx312_2,hx312_3,hl312_1,hi312_1,hl312_2,hi312_2,hl312_3,hi312_3⟩:=at_T42 HR1.out x5_1 p312 q312
        have hw312_3:=hx312_3
        have hw312_2:=hx312_2
        have hw312_1:=hx312_1
        have hw312_0:=hx312_0
        cases e312
        replace hx312_0:=(HB.out.cell (World.block_lt_of_cell? w _ hx312_0)).trans hx312_0
        replace hx312_1:=(HB.out.cell (World.block_lt_of_cell? w _ hx312_1)).trans hx312_1
        replace hx312_2:=(HB.out.cell (World.block_lt_of_cell? w _ hx312_2)).trans hx312_2
        replace hx312_3:=(HB.out.cell (World.block_lt_of_cell? w _ hx312_3)).trans hx312_3
        have HR312_1:=Aside0.mk hi312_1
        have HC312_1:=Aside0.mk hl312_1
        clear hi312_1 hl312_1
        have HR312_2:=Aside0.mk hi312_2
        have HC312_2:=Aside0.mk hl312_2
        clear hi312_2 hl312_2
        have HR312_3:=Aside0.mk hi312_3
        have HC312_3:=Aside0.mk hl312_3
        clear hi312_3 hl312_3
        replace p312:=eq_true p312
        replace q312:=eq_true q312
        refine start_ (n:=10) (S:=fun w'=>w'.cell? (ad311.add ((x5_1).toNat * 4))=some (.int .i64 ((rd_T42 l0 x5_1).f0))∧w'.cell? ⟨(ad311.add ((x5_1).toNat * 4)).block,(ad311.add ((x5_1).toNat * 4)).off+1,none⟩=some (.slice A311_1 ((rd_T42 l0 x5_1).f1).length c311_1)∧w'.cell? ⟨(ad311.add ((x5_1).toNat * 4)).block,(ad311.add ((x5_1).toNat * 4)).off+2,none⟩=some (.slice A311_2 ((rd_T42 l0 x5_1).f2).length c311_2)∧w'.cell? ⟨(ad311.add ((x5_1).toNat * 4)).block,(ad311.add ((x5_1).toNat * 4)).off+3,none⟩=some (.slice A311_3 ((rd_T42 l0 x5_1).f3).length c311_3)∧w'.cell? (ad312.add ((x5_1).toNat * 4))=some (.int .i64 ((rd_T42 l1 x5_1).f0))∧w'.cell? ⟨(ad312.add ((x5_1).toNat * 4)).block,(ad312.add ((x5_1).toNat * 4)).off+1,none⟩=some (.slice A312_1 ((rd_T42 l1 x5_1).f1).length c312_1)∧w'.cell? ⟨(ad312.add ((x5_1).toNat * 4)).block,(ad312.add ((x5_1).toNat * 4)).off+2,none⟩=some (.slice A312_2 ((rd_T42 l1 x5_1).f2).length c312_2)∧w'.cell? ⟨(ad312.add ((x5_1).toNat * 4)).block,(ad312.add ((x5_1).toNat * 4)).off+3,none⟩=some (.slice A312_3 ((rd_T42 l1 x5_1).f3).length c312_3)) (ds:=[]) #[false,false,false,false,false,false,false,false,false,false] (by kernel_rfl) rfl rfl ⟨((HB.out.cell (World.block_lt_of_cell? w _ hw311_0)).trans hw311_0),((HB.out.cell (World.block_lt_of_cell? w _ hw311_1)).trans hw311_1),((HB.out.cell (World.block_lt_of_cell? w _ hw311_2)).trans hw311_2),((HB.out.cell (World.block_lt_of_cell? w _ hw311_3)).trans hw311_3),((HB.out.cell (World.block_lt_of_cell? w _ hw312_0)).trans hw312_0),((HB.out.cell (World.block_lt_of_cell? w _ hw312_1)).trans hw312_1),((HB.out.cell (World.block_lt_of_cell? w _ hw312_2)).trans hw312_2),((HB.out.cell (World.block_lt_of_cell? w _ hw312_3)).trans hw312_3)⟩ (fun hHeld=>?_);refine with_tabW laws_eqPrgGoalS.tab6 laws_eqPrgGoalS.bits6 (fun HT_ HW_=>?_)
        generalize wr.drew=w9 at HB HR311_1 HR311_2 HR311_3 HR312_1 HR312_2 HR312_3 hx311_0 hx311_1 hx311_2 hx311_3 hx312_0 hx312_1 hx312_2 hx312_3 hHeld ⊢
        refine pure_ (i:=0) (N:=some 17) (v:=?_) (a':=?_) #[true,false,false,false,false,false,false,false,false,false] rfl rfl (any_of HT_.out (by kernel_rfl)) (fun _ _ _ h=>h) (Or.inl ⟨by rfl,?_⟩) ?_ ?_
        rotate_left
        ·intro w'
         go_simp
         with_reducible rfl
        rotate_left
        ·simp only [Act.put,List.setIfInBounds_toArray,List.set_cons_zero,List.set_cons_succ,i64_w,i32_w]
         rfl
        refine pure_ (i:=1) (N:=some 18) (v:=?_) (a':=?_) #[true,true,false,false,false,false,false,false,false,false] rfl rfl (any_of HT_.out (by kernel_rfl)) (fun _ _ _ h=>h) (Or.inl ⟨by rfl,?_⟩) ?_ ?_
        rotate_left
        ·intro w'
         go_simp
         with_reducible rfl
        rotate_left
        ·simp only [Act.put,List.setIfInBounds_toArray,List.set_cons_zero,List.set_cons_succ,i64_w,i32_w]
         rfl
        refine pure_ (i:=2) (N:=some 19) (v:=?_) (a':=?_) #[true,true,true,false,false,false,false,false,false,false] rfl rfl (any_of HT_.out (by kernel_rfl)) (fun _ _ _ h=>h) (Or.inl ⟨by rfl,?_⟩) ?_ ?_
        rotate_left
        ·intro w'
         go_simp
         with_reducible rfl
        rotate_left
        ·simp only [Act.put,List.setIfInBounds_toArray,List.set_cons_zero,List.set_cons_succ,i64_w,i32_w]
         rfl
        refine pure_ (i:=4) (N:=some 21) (v:=?_) (a':=?_) #[true,true,true,false,true,false,false,false,false,false] rfl rfl (any_of HT_.out (by kernel_rfl)) (fun _ _ _ h=>h) (Or.inl ⟨by rfl,?_⟩) ?_ ?_
        rotate_left
        ·intro w'
         go_simp
         with_reducible rfl
        rotate_left
        ·simp only [Act.put,List.setIfInBounds_toArray,List.set_cons_zero,List.set_cons_succ,i64_w,i32_w]
         rfl
        refine pure_ (i:=5) (N:=some 22) (v:=?_) (a':=?_) #[true,true,true,false,true,true,false,false,false,false] rfl rfl (any_of HT_.out (by kernel_rfl)) (fun _ _ _ h=>h) (Or.inl ⟨by rfl,?_⟩) ?_ ?_
        rotate_left
        ·intro w'
         go_simp
         with_reducible rfl
        rotate_left
        ·simp only [Act.put,List.setIfInBounds_toArray,List.set_cons_zero,List.set_cons_succ,i64_w,i32_w]
         rfl
        refine pure_ (i:=6) (N:=some 23) (v:=?_) (a':=?_) #[true,true,true,false,true,true,true,false,false,false] rfl rfl (any_of HT_.out (by kernel_rfl)) (fun _ _ _ h=>h) (Or.inl ⟨by rfl,?_⟩) ?_ ?_
        rotate_left
        ·intro w'
         go_simp
         with_reducible rfl
        rotate_left
        ·simp only [Act.put,List.setIfInBounds_toArray,List.set_cons_zero,List.set_cons_succ,i64_w,i32_w]
         rfl
        refine take_ (i:=3) (N:=some 20) (v:=?_) (a':=?_) #[true,true,true,true,true,true,true,false,false,false] rfl rfl (take_ofW HT_.out HW_.out (by kernel_rfl)) (fun _ _ _ h=>h) (Or.inl ⟨by rfl,?_⟩) hHeld ?_ ?_
        rotate_left
        ·rintro w' ⟨s0,s1,s2,s3,s4,s5,s6,s7⟩
         go_simp
         with_reducible rfl
        rotate_left
        ·simp only [Act.put,List.setIfInBounds_toArray,List.set_cons_zero,List.set_cons_succ,i64_w,i32_w]
         rfl
        refine take_ (i:=7) (N:=some 24) (v:=?_) (a':=?_) #[true,true,true,true,true,true,true,true,false,false] rfl rfl (take_ofW HT_.out HW_.out (by kernel_rfl)) (fun _ _ _ h=>h) (Or.inl ⟨by rfl,?_⟩) hHeld ?_ ?_
        rotate_left
        ·rintro w' ⟨s0,s1,s2,s3,s4,s5,s6,s7⟩
         go_simp
         with_reducible rfl
        rotate_left
        ·simp only [Act.put,List.setIfInBounds_toArray,List.set_cons_zero,List.set_cons_succ,i64_w,i32_w]
         rfl
        refine one_ (i:=8) (N:=some 25) #[true,true,true,true,true,true,true,true,true,false] rfl rfl (one_of HT_.out (by kernel_rfl)) (by decide) (fun K hK=>?_)
        refine goes_ Tryd.func98 (by kernel_rfl) rfl #[.agg #[.int .i64 ((rd_T42 l0 x5_1).f0),.slice A311_1 ((rd_T42 l0 x5_1).f1).length c311_1,.slice A311_2 ((rd_T42 l0 x5_1).f2).length c311_2,.slice A311_3 ((rd_T42 l0 x5_1).f3).length c311_3],.agg #[.int .i64 ((rd_T42 l1 x5_1).f0),.slice A312_1 ((rd_T42 l1 x5_1).f1).length c312_1,.slice A312_2 ((rd_T42 l1 x5_1).f2).length c312_2,.slice A312_3 ((rd_T42 l1 x5_1).f3).length c312_3]] (by rfl) rfl rfl qz2 ?_
        with_reducible refine (laws_eqPrgGoal.calls k1 ((rd_T42 l0 x5_1).f0) _ _ ((rd_T42 l0 x5_1).f1) _ _ ((rd_T42 l0 x5_1).f2) _ _ ((rd_T42 l0 x5_1).f3) ((rd_T42 l1 x5_1).f0) _ _ ((rd_T42 l1 x5_1).f1) _ _ ((rd_T42 l1 x5_1).f2) _ _ ((rd_T42 l1 x5_1).f3) true _ ?side1 ?side2 ?side3 ?side4 ?side5 ?side6 ?side7 ?side8 ?side9 ?side10 ?side11 ?side12 A7.out).mono ?_
        (case side1=>exact qz156)
        (case side2=>exact HC311_1.out)
        (case side3=>exact qz155)
        (case side4=>exact HC311_2.out)
        (case side5=>exact qz154)
        (case side6=>exact HC311_3.out)
        (case side7=>exact qz153)
        (case side8=>exact HC312_1.out)
        (case side9=>exact qz152)
        (case side10=>exact HC312_2.out)
        (case side11=>exact qz151)
        (case side12=>exact HC312_3.out)
        rintro e w10 ⟨rfl,hb⟩
        refine ⟨_,rfl,?_⟩
        have n0_:=Aside0.mk (below_step qz1 hb)
        clear HB
        have HB:=n0_
        clear n0_
        (try clear hb)
        (try clear hb2)
        (try clear hk)
        (try clear hi)
        refine hK.out _ _ ⟨((HB.out.cell (World.block_lt_of_cell? w _ hw311_0)).trans hw311_0),((HB.out.cell (World.block_lt_of_cell? w _ hw311_1)).trans hw311_1),((HB.out.cell (World.block_lt_of_cell? w _ hw311_2)).trans hw311_2),((HB.out.cell (World.block_lt_of_cell? w _ hw311_3)).trans hw311_3),((HB.out.cell (World.block_lt_of_cell? w _ hw312_0)).trans hw312_0),((HB.out.cell (World.block_lt_of_cell? w _ hw312_1)).trans hw312_1),((HB.out.cell (World.block_lt_of_cell? w _ hw312_2)).trans hw312_2),((HB.out.cell (World.block_lt_of_cell? w _ hw312_3)).trans hw312_3)⟩ (fun hHeld=>?_)
        clear hK K
        refine norm_ (a':=?_) ?_ ?_
        rotate_left
        ·show Act.put _ (some 25) _=_
         simp only [Act.put,List.setIfInBounds_toArray,List.set_cons_zero,List.set_cons_succ,i64_w,i32_w]
         rfl
        refine pure_ (i:=9) (N:=some 26) (v:=?_) (a':=?_) #[true,true,true,true,true,true,true,true,true,true] rfl rfl (any_of HT_.out (by kernel_rfl)) (fun _ _ _ h=>h) (Or.inl ⟨by rfl,?_⟩) ?_ ?_
        rotate_left
        ·intro w'
         go_simp
         with_reducible rfl
        rotate_left
        ·simp only [Act.put,List.setIfInBounds_toArray,List.set_cons_zero,List.set_cons_succ,i64_w,i32_w]
         rfl
        refine done_ (done_of HT_.out (by kernel_rfl)) ?_
        try go_wp2
        go_roundg k1
        case measure=>have:=HK1.out;omega
        case rel=>exact ⟨(wrap64 (x5_1+1)),qz12,H',⟨by have:=HK1.out;omega⟩,⟨qz4⟩⟩
       ·replace c8:=Bool.eq_false_iff.mpr c8
        subst c8
        have H1:(some false)=some r:=qz23
        clear H
        have H:=H1
        clear H1
        obtain rfl:=Option.some.inj H
        try go_wp2
        have n0_:=Aside0.mk (below_drew1 HB.out)
        clear HB
        have HB:=n0_
        clear n0_
        have p311:0≤(x5_1:Int):=of_decide_eq_true qz7
        have q311:x5_1<(l0.length:Int):=of_decide_eq_true qz7
        obtain ⟨ad311,A311_1,c311_1,A311_2,c311_2,A311_3,c311_3,e311,hx311_0,hx311_1,hx311_2,hx311_3,hl311_1,hi311_1,hl311_2,hi311_2,hl311_3,hi311_3⟩:=at_T42 HR0.out x5_1 p311 q311
        have hw311_3:=hx311_3
        have hw311_2:=hx311_2
        have hw311_1:=hx311_1
        have hw311_0:=hx311_0
        cases e311
        replace hx311_0:=(HB.out.cell (World.block_lt_of_cell? w _ hx311_0)).trans hx311_0
        replace hx311_1:=(HB.out.cell (World.block_lt_of_cell? w _ hx311_1)).trans hx311_1
        replace hx311_2:=(HB.out.cell (World.block_lt_of_cell? w _ hx311_2)).trans hx311_2
        replace hx311_3:=(HB.out.cell (World.block_lt_of_cell? w _ hx311_3)).trans hx311_3
        have HR311_1:=Aside0.mk hi311_1
        have HC311_1:=Aside0.mk hl311_1
        clear hi311_1 hl311_1
        have HR311_2:=Aside0.mk hi311_2
        have HC311_2:=Aside0.mk hl311_2
        clear hi311_2 hl311_2
        have HR311_3:=Aside0.mk hi311_3
        have HC311_3:=Aside0.mk hl311_3
        clear hi311_3 hl311_3
        replace p311:=eq_true p311
        replace q311:=eq_true q311
        have p312:0≤(x5_1:Int):=of_decide_eq_true qz7
        have q312:x5_1<(l1.length:Int):=of_decide_eq_true qz7
        obtain ⟨ad312,A312_1,c312_1,A312_2,c312_2,A312_3,c312_3,e312,hx312_0,hx312_1,hx312_2,hx312_3,hl312_1,hi312_1,hl312_2,hi312_2,hl312_3,hi312_3⟩:=at_T42 HR1.out x5_1 p312 q312
        have hw312_3:=hx312_3
        have hw312_2:=hx312_2
        have hw312_1:=hx312_1
        have hw312_0:=hx312_0
        cases e312
        replace hx312_0:=(HB.out.cell (World.block_lt_of_cell? w _ hx312_0)).trans hx312_0
        replace hx312_1:=(HB.out.cell (World.block_lt_of_cell? w _ hx312_1)).trans hx312_1
        replace hx312_2:=(HB.out.cell (World.block_lt_of_cell? w _ hx312_2)).trans hx312_2
        replace hx312_3:=(HB.out.cell (World.block_lt_of_cell? w _ hx312_3)).trans hx312_3
        have HR312_1:=Aside0.mk hi312_1
        have HC312_1:=Aside0.mk hl312_1
        clear hi312_1 hl312_1
        have HR312_2:=Aside0.mk hi312_2
        have HC312_2:=Aside0.mk hl312_2
        clear hi312_2 hl312_2
        have HR312_3:=Aside0.mk hi312_3
        have HC312_3:=Aside0.mk hl312_3
        clear hi312_3 hl312_3
        replace p312:=eq_true p312
        replace q312:=eq_true q312
        refine start_ (n:=10) (S:=fun w'=>w'.cell? (ad311.add ((x5_1).toNat * 4))=some (.int .i64 ((rd_T42 l0 x5_1).f0))∧w'.cell? ⟨(ad311.add ((x5_1).toNat * 4)).block,(ad311.add ((x5_1).toNat * 4)).off+1,none⟩=some (.slice A311_1 ((rd_T42 l0 x5_1).f1).length c311_1)∧w'.cell? ⟨(ad311.add ((x5_1).toNat * 4)).block,(ad311.add ((x5_1).toNat * 4)).off+2,none⟩=some (.slice A311_2 ((rd_T42 l0 x5_1).f2).length c311_2)∧w'.cell? ⟨(ad311.add ((x5_1).toNat * 4)).block,(ad311.add ((x5_1).toNat * 4)).off+3,none⟩=some (.slice A311_3 ((rd_T42 l0 x5_1).f3).length c311_3)∧w'.cell? (ad312.add ((x5_1).toNat * 4))=some (.int .i64 ((rd_T42 l1 x5_1).f0))∧w'.cell? ⟨(ad312.add ((x5_1).toNat * 4)).block,(ad312.add ((x5_1).toNat * 4)).off+1,none⟩=some (.slice A312_1 ((rd_T42 l1 x5_1).f1).length c312_1)∧w'.cell? ⟨(ad312.add ((x5_1).toNat * 4)).block,(ad312.add ((x5_1).toNat * 4)).off+2,none⟩=some (.slice A312_2 ((rd_T42 l1 x5_1).f2).length c312_2)∧w'.cell? ⟨(ad312.add ((x5_1).toNat * 4)).block,(ad312.add ((x5_1).toNat * 4)).off+3,none⟩=some (.slice A312_3 ((rd_T42 l1 x5_1).f3).length c312_3)) (ds:=[]) #[false,false,false,false,false,false,false,false,false,false] (by kernel_rfl) rfl rfl ⟨((HB.out.cell (World.block_lt_of_cell? w _ hw311_0)).trans hw311_0),((HB.out.cell (World.block_lt_of_cell? w _ hw311_1)).trans hw311_1),((HB.out.cell (World.block_lt_of_cell? w _ hw311_2)).trans hw311_2),((HB.out.cell (World.block_lt_of_cell? w _ hw311_3)).trans hw311_3),((HB.out.cell (World.block_lt_of_cell? w _ hw312_0)).trans hw312_0),((HB.out.cell (World.block_lt_of_cell? w _ hw312_1)).trans hw312_1),((HB.out.cell (World.block_lt_of_cell? w _ hw312_2)).trans hw312_2),((HB.out.cell (World.block_lt_of_cell? w _ hw312_3)).trans hw312_3)⟩ (fun hHeld=>?_);refine with_tabW laws_eqPrgGoalS.tab6 laws_eqPrgGoalS.bits6 (fun HT_ HW_=>?_)
        generalize wr.drew=w11 at HB HR311_1 HR311_2 HR311_3 HR312_1 HR312_2 HR312_3 hx311_0 hx311_1 hx311_2 hx311_3 hx312_0 hx312_1 hx312_2 hx312_3 hHeld ⊢
        refine pure_ (i:=0) (N:=some 17) (v:=?_) (a':=?_) #[true,false,false,false,false,false,false,false,false,false] rfl rfl (any_of HT_.out (by kernel_rfl)) (fun _ _ _ h=>h) (Or.inl ⟨by rfl,?_⟩) ?_ ?_
        rotate_left
        ·intro w'
         go_simp
         with_reducible rfl
        rotate_left
        ·simp only [Act.put,List.setIfInBounds_toArray,List.set_cons_zero,List.set_cons_succ,i64_w,i32_w]
         rfl
        refine pure_ (i:=1) (N:=some 18) (v:=?_) (a':=?_) #[true,true,false,false,false,false,false,false,false,false] rfl rfl (any_of HT_.out (by kernel_rfl)) (fun _ _ _ h=>h) (Or.inl ⟨by rfl,?_⟩) ?_ ?_
        rotate_left
        ·intro w'
         go_simp
         with_reducible rfl
        rotate_left
        ·simp only [Act.put,List.setIfInBounds_toArray,List.set_cons_zero,List.set_cons_succ,i64_w,i32_w]
         rfl
        refine pure_ (i:=2) (N:=some 19) (v:=?_) (a':=?_) #[true,true,true,false,false,false,false,false,false,false] rfl rfl (any_of HT_.out (by kernel_rfl)) (fun _ _ _ h=>h) (Or.inl ⟨by rfl,?_⟩) ?_ ?_
        rotate_left
        ·intro w'
         go_simp
         with_reducible rfl
        rotate_left
        ·simp only [Act.put,List.setIfInBounds_toArray,List.set_cons_zero,List.set_cons_succ,i64_w,i32_w]
         rfl
        refine pure_ (i:=4) (N:=some 21) (v:=?_) (a':=?_) #[true,true,true,false,true,false,false,false,false,false] rfl rfl (any_of HT_.out (by kernel_rfl)) (fun _ _ _ h=>h) (Or.inl ⟨by rfl,?_⟩) ?_ ?_
        rotate_left
        ·intro w'
         go_simp
         with_reducible rfl
        rotate_left
        ·simp only [Act.put,List.setIfInBounds_toArray,List.set_cons_zero,List.set_cons_succ,i64_w,i32_w]
         rfl
        refine pure_ (i:=5) (N:=some 22) (v:=?_) (a':=?_) #[true,true,true,false,true,true,false,false,false,false] rfl rfl (any_of HT_.out (by kernel_rfl)) (fun _ _ _ h=>h) (Or.inl ⟨by rfl,?_⟩) ?_ ?_
        rotate_left
        ·intro w'
         go_simp
         with_reducible rfl
        rotate_left
        ·simp only [Act.put,List.setIfInBounds_toArray,List.set_cons_zero,List.set_cons_succ,i64_w,i32_w]
         rfl
        refine pure_ (i:=6) (N:=some 23) (v:=?_) (a':=?_) #[true,true,true,false,true,true,true,false,false,false] rfl rfl (any_of HT_.out (by kernel_rfl)) (fun _ _ _ h=>h) (Or.inl ⟨by rfl,?_⟩) ?_ ?_
        rotate_left
        ·intro w'
         go_simp
         with_reducible rfl
        rotate_left
        ·simp only [Act.put,List.setIfInBounds_toArray,List.set_cons_zero,List.set_cons_succ,i64_w,i32_w]
         rfl
        refine take_ (i:=3) (N:=some 20) (v:=?_) (a':=?_) #[true,true,true,true,true,true,true,false,false,false] rfl rfl (take_ofW HT_.out HW_.out (by kernel_rfl)) (fun _ _ _ h=>h) (Or.inl ⟨by rfl,?_⟩) hHeld ?_ ?_
        rotate_left
        ·rintro w' ⟨s0,s1,s2,s3,s4,s5,s6,s7⟩
         go_simp
         with_reducible rfl
        rotate_left
        ·simp only [Act.put,List.setIfInBounds_toArray,List.set_cons_zero,List.set_cons_succ,i64_w,i32_w]
         rfl
        refine take_ (i:=7) (N:=some 24) (v:=?_) (a':=?_) #[true,true,true,true,true,true,true,true,false,false] rfl rfl (take_ofW HT_.out HW_.out (by kernel_rfl)) (fun _ _ _ h=>h) (Or.inl ⟨by rfl,?_⟩) hHeld ?_ ?_
        rotate_left
        ·rintro w' ⟨s0,s1,s2,s3,s4,s5,s6,s7⟩
         go_simp
         with_reducible rfl
        rotate_left
        ·simp only [Act.put,List.setIfInBounds_toArray,List.set_cons_zero,List.set_cons_succ,i64_w,i32_w]
         rfl
        refine one_ (i:=8) (N:=some 25) #[true,true,true,true,true,true,true,true,true,false] rfl rfl (one_of HT_.out (by kernel_rfl)) (by decide) (fun K hK=>?_)
        refine goes_ Tryd.func98 (by kernel_rfl) rfl #[.agg #[.int .i64 ((rd_T42 l0 x5_1).f0),.slice A311_1 ((rd_T42 l0 x5_1).f1).length c311_1,.slice A311_2 ((rd_T42 l0 x5_1).f2).length c311_2,.slice A311_3 ((rd_T42 l0 x5_1).f3).length c311_3],.agg #[.int .i64 ((rd_T42 l1 x5_1).f0),.slice A312_1 ((rd_T42 l1 x5_1).f1).length c312_1,.slice A312_2 ((rd_T42 l1 x5_1).f2).length c312_2,.slice A312_3 ((rd_T42 l1 x5_1).f3).length c312_3]] (by rfl) rfl rfl qz2 ?_
        with_reducible refine (laws_eqPrgGoal.calls k1 ((rd_T42 l0 x5_1).f0) _ _ ((rd_T42 l0 x5_1).f1) _ _ ((rd_T42 l0 x5_1).f2) _ _ ((rd_T42 l0 x5_1).f3) ((rd_T42 l1 x5_1).f0) _ _ ((rd_T42 l1 x5_1).f1) _ _ ((rd_T42 l1 x5_1).f2) _ _ ((rd_T42 l1 x5_1).f3) false _ ?side1 ?side2 ?side3 ?side4 ?side5 ?side6 ?side7 ?side8 ?side9 ?side10 ?side11 ?side12 A7.out).mono ?_
        (case side1=>exact qz156)
        (case side2=>exact HC311_1.out)
        (case side3=>exact qz155)
        (case side4=>exact HC311_2.out)
        (case side5=>exact qz154)
        (case side6=>exact HC311_3.out)
        (case side7=>exact qz153)
        (case side8=>exact HC312_1.out)
        (case side9=>exact qz152)
        (case side10=>exact HC312_2.out)
        (case side11=>exact qz151)
        (case side12=>exact HC312_3.out)
        rintro e w12 ⟨rfl,hb⟩
        refine ⟨_,rfl,?_⟩
        have n0_:=Aside0.mk (below_step qz1 hb)
        clear HB
        have HB:=n0_
        clear n0_
        (try clear hb)
        (try clear hb2)
        (try clear hk)
        (try clear hi)
        refine hK.out _ _ ⟨((HB.out.cell (World.block_lt_of_cell? w _ hw311_0)).trans hw311_0),((HB.out.cell (World.block_lt_of_cell? w _ hw311_1)).trans hw311_1),((HB.out.cell (World.block_lt_of_cell? w _ hw311_2)).trans hw311_2),((HB.out.cell (World.block_lt_of_cell? w _ hw311_3)).trans hw311_3),((HB.out.cell (World.block_lt_of_cell? w _ hw312_0)).trans hw312_0),((HB.out.cell (World.block_lt_of_cell? w _ hw312_1)).trans hw312_1),((HB.out.cell (World.block_lt_of_cell? w _ hw312_2)).trans hw312_2),((HB.out.cell (World.block_lt_of_cell? w _ hw312_3)).trans hw312_3)⟩ (fun hHeld=>?_)
        clear hK K
        refine norm_ (a':=?_) ?_ ?_
        rotate_left
        ·show Act.put _ (some 25) _=_
         simp only [Act.put,List.setIfInBounds_toArray,List.set_cons_zero,List.set_cons_succ,i64_w,i32_w]
         rfl
        refine pure_ (i:=9) (N:=some 26) (v:=?_) (a':=?_) #[true,true,true,true,true,true,true,true,true,true] rfl rfl (any_of HT_.out (by kernel_rfl)) (fun _ _ _ h=>h) (Or.inl ⟨by rfl,?_⟩) ?_ ?_
        rotate_left
        ·intro w'
         go_simp
         with_reducible rfl
        rotate_left
        ·simp only [Act.put,List.setIfInBounds_toArray,List.set_cons_zero,List.set_cons_succ,i64_w,i32_w]
         rfl
        refine done_ (done_of HT_.out (by kernel_rfl)) ?_
        try go_wp2
        go_ret
        exact ⟨qz3,qz4⟩
      ·rw [if_neg c6] at H
       exact absurd H (by simp)
     ·rw [if_neg c5] at H
      exact absurd H (by simp)
    ·rw [if_neg c4] at H
     have c4b0:decide (x5_1<(l0.length:Int))=false:=decide_eq_false c4
     clear c4
     obtain rfl:=Option.some.inj H
     go_wp2
     go_ret
     exact ⟨qz3,qz4⟩
 ·rw [if_neg c3] at H
  have c3b0:((l0.length:Int) == (l1.length:Int))=false:=beq_eq_false_iff_ne.mpr c3
  have c3b1:((l0.length:Int) != (l1.length:Int))=true:=bne_iff_ne.mpr c3
  have c3b2:(l0.length == l1.length)=false:=qz134
  obtain rfl:=Option.some.inj H
  go_enter Tryd.func82,Tryd.ntmps82
  go_wp2
  go_ret
  exact ⟨qz3,qz4⟩

/-! ### laws_eqPrgClause: function 62 -/
def laws_eqPrgClause.f (k:Nat) (l0_0:List (S47)) (l0_1:List (S42)) (l1_0:List (S47)) (l1_1:List (S42)):Option (Bool):=(laws_eqTrmCellS.f k l0_0 l1_0).bind fun t316=>(if t316=true then ((laws_eqPrgGoalS.f k l0_1 l1_1).bind fun t317=>(if t317=true then (some true) else (some false))) else (some false))
set_option maxHeartbeats 8000000 in
set_option maxRecDepth 100000 in
theorem laws_eqPrgClause.calls (k:Nat) (A0_0:Option Addr) (c0_0:Nat) (l0_0:List (S47)) (A0_1:Option Addr) (c0_1:Nat) (l0_1:List (S42)) (A1_0:Option Addr) (c1_0:Nat) (l1_0:List (S47)) (A1_1:Option Addr) (c1_1:Nat) (l1_1:List (S42)) (r:Bool) (w:World) (hr0_0:Kd.C k47 w A0_0 l0_0.length l0_0) (hc0_0:l0_0.length≤c0_0) (hr0_1:Kd.C k42 w A0_1 l0_1.length l0_1) (hc0_1:l0_1.length≤c0_1) (hr1_0:Kd.C k47 w A1_0 l1_0.length l1_0) (hc1_0:l1_0.length≤c1_0) (hr1_1:Kd.C k42 w A1_1 l1_1.length l1_1) (hc1_1:l1_1.length≤c1_1) (h:laws_eqPrgClause.f k l0_0 l0_1 l1_0 l1_1=some r) :
  Calls Tryd.prog 62 #[.agg #[.slice A0_0 l0_0.length c0_0,.slice A0_1 l0_1.length c0_1],.agg #[.slice A1_0 l1_0.length c1_0,.slice A1_1 l1_1.length c1_1]] w fun e w'=>e = .returned (.bool r)∧Below w.heap.size w w':=by
 have hu86:=Tryd.underlying86
 have HR0_0:=Aside0.mk hr0_0
 have HC0_0:=Aside0.mk hc0_0
 clear hr0_0 hc0_0
 have HR0_1:=Aside0.mk hr0_1
 have HC0_1:=Aside0.mk hc0_1
 clear hr0_1 hc0_1
 have HR1_0:=Aside0.mk hr1_0
 have HC1_0:=Aside0.mk hc1_0
 clear hr1_0 hc1_0
 have HR1_1:=Aside0.mk hr1_1
 have HC1_1:=Aside0.mk hc1_1
 clear hr1_1 hc1_1
 have HB:=Aside0.mk (Below.refl w.heap.size w)
 have H:((laws_eqTrmCellS.f k l0_0 l1_0).bind fun t316=>(if t316=true then ((laws_eqPrgGoalS.f k l0_1 l1_1).bind fun t317=>(if t317=true then (some true) else (some false))) else (some false)))=some r:=h
 clear h
 replace H:=Option.bind_eq_some_iff.mp H
 obtain ⟨t316,A30,H⟩:=H
 try dsimp only at H
 have A3:=Aside0.mk A30
 clear A30
 by_cases c4:t316=true
 ·subst c4
  have H1:((laws_eqPrgGoalS.f k l0_1 l1_1).bind fun t317=>(if t317=true then (some true) else (some false)))=some r:=qz51
  clear H
  have H:=H1
  clear H1
  replace H:=Option.bind_eq_some_iff.mp H
  obtain ⟨t317,A50,H⟩:=H
  try dsimp only at H
  have A5:=Aside0.mk A50
  clear A50
  by_cases c6:t317=true
  ·subst c6
   have H1:(some true)=some r:=qz51
   clear H
   have H:=H1
   clear H1
   obtain rfl:=Option.some.inj H
   go_enter Tryd.func62,Tryd.ntmps62
   go_wp2_with (first|((with_reducible refine gate_dst (N:=2) rfl ?_);refine box_event ?hg (N:=2) ?hd (cs:=#[.slice A0_0 l0_0.length c0_0,.slice A0_1 l0_1.length c0_1]) (t:=86) ?hr ?_;(case hd=>rfl);(case hg=>rfl);(case hr=>first|(go_simp;done)|(go_simp;rfl));intro gb314 hg w7 hbox hb;have n0_:=Aside0.mk (below_step qz1 hb);have n1_:=Aside0.mk (hbox);have n2_:=Aside0.mk ((by rw [hg];exact (below_size qz1):w.heap.size≤gb314));have n3_:=Aside0.mk ((by rw [hg];exact (below_size qz1):w.heap.size≤gb314));clear HB;have HB:=n0_;have BK314:=n1_;have GW314:=n2_;have GE314:=n3_;clear n0_ n1_ n2_ n3_ hb hbox hg)|((with_reducible refine gate_dst (N:=3) rfl ?_);refine box_event ?hg (N:=3) ?hd (cs:=#[.slice A1_0 l1_0.length c1_0,.slice A1_1 l1_1.length c1_1]) (t:=86) ?hr ?_;(case hd=>rfl);(case hg=>rfl);(case hr=>first|(go_simp;done)|(go_simp;rfl));intro gb315 hg w8 hbox hb;have n0_:=Aside0.mk (blk_below (g:=gb314) (o:=.cells #[.slice A0_0 l0_0.length c0_0,.slice A0_1 l0_1.length c0_1] 86 (0,0)) qz49 hb);have n1_:=Aside0.mk (below_step qz57 hb);have n2_:=Aside0.mk (hbox);have n3_:=Aside0.mk ((by rw [hg];exact (below_size qz57):w.heap.size≤gb315));have n4_:=Aside0.mk ((by rw [hg];exact (below_size qz57):w.heap.size≤gb315));have n5_:=Aside0.mk ((by rw [hg];exact Nat.ne_of_lt (blk_lt (g:=gb314) (o:=.cells #[.slice A0_0 l0_0.length c0_0,.slice A0_1 l0_1.length c0_1] 86 (0,0)) qz49):gb314≠gb315));have n6_:=Aside0.mk ((by rw [hg];exact Nat.ne_of_gt (blk_lt (g:=gb314) (o:=.cells #[.slice A0_0 l0_0.length c0_0,.slice A0_1 l0_1.length c0_1] 86 (0,0)) qz49):gb315≠gb314));clear BK314 HB;have BK314:=n0_;have HB:=n1_;have BK315:=n2_;have GW315:=n3_;have GE315:=n4_;have NB314_315:=n5_;have NB315_314:=n6_;clear n0_ n1_ n2_ n3_ n4_ n5_ n6_ hb hbox hg;have hnb9:=NB314_315.out;have hnc9:=NB315_314.out;have hcz10_0:w8.cell? ⟨gb314,0,none⟩=some (.slice A0_0 l0_0.length c0_0):=(blk_cell BK314.out 0).trans rfl;have hcz10_1:w8.cell? ⟨gb314,1,none⟩=some (.slice A0_1 l0_1.length c0_1):=(blk_cell BK314.out 1).trans rfl;have hfz10_0:=blk_frozen BK314.out 0;have hfz10_1:=blk_frozen BK314.out 1;have hcz11_0:w8.cell? ⟨gb315,0,none⟩=some (.slice A1_0 l1_0.length c1_0):=(blk_cell BK315.out 0).trans rfl;have hcz11_1:w8.cell? ⟨gb315,1,none⟩=some (.slice A1_1 l1_1.length c1_1):=(blk_cell BK315.out 1).trans rfl;have hfz11_0:=blk_frozen BK315.out 0;have hfz11_1:=blk_frozen BK315.out 1)|((with_reducible refine gate_callee (f:=13) rfl ?_);refine goesL_ (some 9) rfl rfl Tryd.func13 (by kernel_rfl) rfl #[.slice A0_0 l0_0.length c0_0,.slice A1_0 l1_0.length c1_0] rfl qz2 ?_;(with_reducible refine (laws_eqTrmCellS.calls k _ _ l0_0 _ _ l1_0 true _ ?side1 ?side2 ?side3 ?side4 A3.out).mono ?_);(case side1=>exact qz8);(case side2=>exact HC0_0.out);(case side3=>exact qz81);(case side4=>exact HC1_0.out);rintro e w12 ⟨rfl,hb⟩;refine ⟨_,rfl,?_⟩;have n0_:=Aside0.mk (blk_below (g:=gb314) (o:=.cells #[.slice A0_0 l0_0.length c0_0,.slice A0_1 l0_1.length c0_1] 86 (0,0)) qz49 hb);have n1_:=Aside0.mk (blk_below (g:=gb315) (o:=.cells #[.slice A1_0 l1_0.length c1_0,.slice A1_1 l1_1.length c1_1] 86 (0,0)) qz106 hb);have n2_:=Aside0.mk (below_step qz55 hb);clear BK314 BK315 HB;have BK314:=n0_;have BK315:=n1_;have HB:=n2_;clear n0_ n1_ n2_;(try clear hb);(try clear hb2);(try clear hk);(try clear hi);have hcz13_0:w12.cell? ⟨gb314,0,none⟩=some (.slice A0_0 l0_0.length c0_0):=(blk_cell BK314.out 0).trans rfl;have hcz13_1:w12.cell? ⟨gb314,1,none⟩=some (.slice A0_1 l0_1.length c0_1):=(blk_cell BK314.out 1).trans rfl;have hfz13_0:=blk_frozen BK314.out 0;have hfz13_1:=blk_frozen BK314.out 1;have hcz14_0:w12.cell? ⟨gb315,0,none⟩=some (.slice A1_0 l1_0.length c1_0):=(blk_cell BK315.out 0).trans rfl;have hcz14_1:w12.cell? ⟨gb315,1,none⟩=some (.slice A1_1 l1_1.length c1_1):=(blk_cell BK315.out 1).trans rfl;have hfz14_0:=blk_frozen BK315.out 0;have hfz14_1:=blk_frozen BK315.out 1)|((with_reducible refine gate_callee (f:=82) rfl ?_);refine goesL_ (some 15) rfl rfl Tryd.func82 (by kernel_rfl) rfl #[.slice A0_1 l0_1.length c0_1,.slice A1_1 l1_1.length c1_1] rfl qz2 ?_;(with_reducible refine (laws_eqPrgGoalS.calls k _ _ l0_1 _ _ l1_1 true _ ?side1 ?side2 ?side3 ?side4 A5.out).mono ?_);(case side1=>exact qz5);(case side2=>exact HC0_1.out);(case side3=>exact qz61);(case side4=>exact HC1_1.out);rintro e w15 ⟨rfl,hb⟩;refine ⟨_,rfl,?_⟩;have n0_:=Aside0.mk (blk_below (g:=gb314) (o:=.cells #[.slice A0_0 l0_0.length c0_0,.slice A0_1 l0_1.length c0_1] 86 (0,0)) qz49 hb);have n1_:=Aside0.mk (blk_below (g:=gb315) (o:=.cells #[.slice A1_0 l1_0.length c1_0,.slice A1_1 l1_1.length c1_1] 86 (0,0)) qz106 hb);have n2_:=Aside0.mk (below_step qz55 hb);clear BK314 BK315 HB;have BK314:=n0_;have BK315:=n1_;have HB:=n2_;clear n0_ n1_ n2_;(try clear hb);(try clear hb2);(try clear hk);(try clear hi)))
   go_ret
   exact ⟨qz3,qz55⟩
  ·replace c6:=Bool.eq_false_iff.mpr c6
   subst c6
   have H1:(some false)=some r:=qz23
   clear H
   have H:=H1
   clear H1
   obtain rfl:=Option.some.inj H
   go_enter Tryd.func62,Tryd.ntmps62
   go_wp2_with (first|((with_reducible refine gate_dst (N:=2) rfl ?_);refine box_event ?hg (N:=2) ?hd (cs:=#[.slice A0_0 l0_0.length c0_0,.slice A0_1 l0_1.length c0_1]) (t:=86) ?hr ?_;(case hd=>rfl);(case hg=>rfl);(case hr=>first|(go_simp;done)|(go_simp;rfl));intro gb314 hg w16 hbox hb;have n0_:=Aside0.mk (below_step qz1 hb);have n1_:=Aside0.mk (hbox);have n2_:=Aside0.mk ((by rw [hg];exact (below_size qz1):w.heap.size≤gb314));have n3_:=Aside0.mk ((by rw [hg];exact (below_size qz1):w.heap.size≤gb314));clear HB;have HB:=n0_;have BK314:=n1_;have GW314:=n2_;have GE314:=n3_;clear n0_ n1_ n2_ n3_ hb hbox hg)|((with_reducible refine gate_dst (N:=3) rfl ?_);refine box_event ?hg (N:=3) ?hd (cs:=#[.slice A1_0 l1_0.length c1_0,.slice A1_1 l1_1.length c1_1]) (t:=86) ?hr ?_;(case hd=>rfl);(case hg=>rfl);(case hr=>first|(go_simp;done)|(go_simp;rfl));intro gb315 hg w17 hbox hb;have n0_:=Aside0.mk (blk_below (g:=gb314) (o:=.cells #[.slice A0_0 l0_0.length c0_0,.slice A0_1 l0_1.length c0_1] 86 (0,0)) qz49 hb);have n1_:=Aside0.mk (below_step qz57 hb);have n2_:=Aside0.mk (hbox);have n3_:=Aside0.mk ((by rw [hg];exact (below_size qz57):w.heap.size≤gb315));have n4_:=Aside0.mk ((by rw [hg];exact (below_size qz57):w.heap.size≤gb315));have n5_:=Aside0.mk ((by rw [hg];exact Nat.ne_of_lt (blk_lt (g:=gb314) (o:=.cells #[.slice A0_0 l0_0.length c0_0,.slice A0_1 l0_1.length c0_1] 86 (0,0)) qz49):gb314≠gb315));have n6_:=Aside0.mk ((by rw [hg];exact Nat.ne_of_gt (blk_lt (g:=gb314) (o:=.cells #[.slice A0_0 l0_0.length c0_0,.slice A0_1 l0_1.length c0_1] 86 (0,0)) qz49):gb315≠gb314));clear BK314 HB;have BK314:=n0_;have HB:=n1_;have BK315:=n2_;have GW315:=n3_;have GE315:=n4_;have NB314_315:=n5_;have NB315_314:=n6_;clear n0_ n1_ n2_ n3_ n4_ n5_ n6_ hb hbox hg;have hnb18:=NB314_315.out;have hnc18:=NB315_314.out;have hcz19_0:w17.cell? ⟨gb314,0,none⟩=some (.slice A0_0 l0_0.length c0_0):=(blk_cell BK314.out 0).trans rfl;have hcz19_1:w17.cell? ⟨gb314,1,none⟩=some (.slice A0_1 l0_1.length c0_1):=(blk_cell BK314.out 1).trans rfl;have hfz19_0:=blk_frozen BK314.out 0;have hfz19_1:=blk_frozen BK314.out 1;have hcz20_0:w17.cell? ⟨gb315,0,none⟩=some (.slice A1_0 l1_0.length c1_0):=(blk_cell BK315.out 0).trans rfl;have hcz20_1:w17.cell? ⟨gb315,1,none⟩=some (.slice A1_1 l1_1.length c1_1):=(blk_cell BK315.out 1).trans rfl;have hfz20_0:=blk_frozen BK315.out 0;have hfz20_1:=blk_frozen BK315.out 1)|((with_reducible refine gate_callee (f:=13) rfl ?_);refine goesL_ (some 9) rfl rfl Tryd.func13 (by kernel_rfl) rfl #[.slice A0_0 l0_0.length c0_0,.slice A1_0 l1_0.length c1_0] rfl qz2 ?_;(with_reducible refine (laws_eqTrmCellS.calls k _ _ l0_0 _ _ l1_0 true _ ?side1 ?side2 ?side3 ?side4 A3.out).mono ?_);(case side1=>exact qz8);(case side2=>exact HC0_0.out);(case side3=>exact qz81);(case side4=>exact HC1_0.out);rintro e w21 ⟨rfl,hb⟩;refine ⟨_,rfl,?_⟩;have n0_:=Aside0.mk (blk_below (g:=gb314) (o:=.cells #[.slice A0_0 l0_0.length c0_0,.slice A0_1 l0_1.length c0_1] 86 (0,0)) qz49 hb);have n1_:=Aside0.mk (blk_below (g:=gb315) (o:=.cells #[.slice A1_0 l1_0.length c1_0,.slice A1_1 l1_1.length c1_1] 86 (0,0)) qz106 hb);have n2_:=Aside0.mk (below_step qz55 hb);clear BK314 BK315 HB;have BK314:=n0_;have BK315:=n1_;have HB:=n2_;clear n0_ n1_ n2_;(try clear hb);(try clear hb2);(try clear hk);(try clear hi);have hcz22_0:w21.cell? ⟨gb314,0,none⟩=some (.slice A0_0 l0_0.length c0_0):=(blk_cell BK314.out 0).trans rfl;have hcz22_1:w21.cell? ⟨gb314,1,none⟩=some (.slice A0_1 l0_1.length c0_1):=(blk_cell BK314.out 1).trans rfl;have hfz22_0:=blk_frozen BK314.out 0;have hfz22_1:=blk_frozen BK314.out 1;have hcz23_0:w21.cell? ⟨gb315,0,none⟩=some (.slice A1_0 l1_0.length c1_0):=(blk_cell BK315.out 0).trans rfl;have hcz23_1:w21.cell? ⟨gb315,1,none⟩=some (.slice A1_1 l1_1.length c1_1):=(blk_cell BK315.out 1).trans rfl;have hfz23_0:=blk_frozen BK315.out 0;have hfz23_1:=blk_frozen BK315.out 1)|((with_reducible refine gate_callee (f:=82) rfl ?_);refine goesL_ (some 15) rfl rfl Tryd.func82 (by kernel_rfl) rfl #[.slice A0_1 l0_1.length c0_1,.slice A1_1 l1_1.length c1_1] rfl qz2 ?_;(with_reducible refine (laws_eqPrgGoalS.calls k _ _ l0_1 _ _ l1_1 false _ ?side1 ?side2 ?side3 ?side4 A5.out).mono ?_);(case side1=>exact qz5);(case side2=>exact HC0_1.out);(case side3=>exact qz61);(case side4=>exact HC1_1.out);rintro e w24 ⟨rfl,hb⟩;refine ⟨_,rfl,?_⟩;have n0_:=Aside0.mk (blk_below (g:=gb314) (o:=.cells #[.slice A0_0 l0_0.length c0_0,.slice A0_1 l0_1.length c0_1] 86 (0,0)) qz49 hb);have n1_:=Aside0.mk (blk_below (g:=gb315) (o:=.cells #[.slice A1_0 l1_0.length c1_0,.slice A1_1 l1_1.length c1_1] 86 (0,0)) qz106 hb);have n2_:=Aside0.mk (below_step qz55 hb);clear BK314 BK315 HB;have BK314:=n0_;have BK315:=n1_;have HB:=n2_;clear n0_ n1_ n2_;(try clear hb);(try clear hb2);(try clear hk);(try clear hi)))
   go_ret
   exact ⟨qz3,qz55⟩
 ·replace c4:=Bool.eq_false_iff.mpr c4
  subst c4
  have H1:(some false)=some r:=qz23
  clear H
  have H:=H1
  clear H1
  obtain rfl:=Option.some.inj H
  go_enter Tryd.func62,Tryd.ntmps62
  go_wp2_with (first|((with_reducible refine gate_dst (N:=2) rfl ?_);refine box_event ?hg (N:=2) ?hd (cs:=#[.slice A0_0 l0_0.length c0_0,.slice A0_1 l0_1.length c0_1]) (t:=86) ?hr ?_;(case hd=>rfl);(case hg=>rfl);(case hr=>first|(go_simp;done)|(go_simp;rfl));intro gb314 hg w25 hbox hb;have n0_:=Aside0.mk (below_step qz1 hb);have n1_:=Aside0.mk (hbox);have n2_:=Aside0.mk ((by rw [hg];exact (below_size qz1):w.heap.size≤gb314));have n3_:=Aside0.mk ((by rw [hg];exact (below_size qz1):w.heap.size≤gb314));clear HB;have HB:=n0_;have BK314:=n1_;have GW314:=n2_;have GE314:=n3_;clear n0_ n1_ n2_ n3_ hb hbox hg)|((with_reducible refine gate_dst (N:=3) rfl ?_);refine box_event ?hg (N:=3) ?hd (cs:=#[.slice A1_0 l1_0.length c1_0,.slice A1_1 l1_1.length c1_1]) (t:=86) ?hr ?_;(case hd=>rfl);(case hg=>rfl);(case hr=>first|(go_simp;done)|(go_simp;rfl));intro gb315 hg w26 hbox hb;have n0_:=Aside0.mk (blk_below (g:=gb314) (o:=.cells #[.slice A0_0 l0_0.length c0_0,.slice A0_1 l0_1.length c0_1] 86 (0,0)) qz49 hb);have n1_:=Aside0.mk (below_step qz57 hb);have n2_:=Aside0.mk (hbox);have n3_:=Aside0.mk ((by rw [hg];exact (below_size qz57):w.heap.size≤gb315));have n4_:=Aside0.mk ((by rw [hg];exact (below_size qz57):w.heap.size≤gb315));have n5_:=Aside0.mk ((by rw [hg];exact Nat.ne_of_lt (blk_lt (g:=gb314) (o:=.cells #[.slice A0_0 l0_0.length c0_0,.slice A0_1 l0_1.length c0_1] 86 (0,0)) qz49):gb314≠gb315));have n6_:=Aside0.mk ((by rw [hg];exact Nat.ne_of_gt (blk_lt (g:=gb314) (o:=.cells #[.slice A0_0 l0_0.length c0_0,.slice A0_1 l0_1.length c0_1] 86 (0,0)) qz49):gb315≠gb314));clear BK314 HB;have BK314:=n0_;have HB:=n1_;have BK315:=n2_;have GW315:=n3_;have GE315:=n4_;have NB314_315:=n5_;have NB315_314:=n6_;clear n0_ n1_ n2_ n3_ n4_ n5_ n6_ hb hbox hg;have hnb27:=NB314_315.out;have hnc27:=NB315_314.out;have hcz28_0:w26.cell? ⟨gb314,0,none⟩=some (.slice A0_0 l0_0.length c0_0):=(blk_cell BK314.out 0).trans rfl;have hcz28_1:w26.cell? ⟨gb314,1,none⟩=some (.slice A0_1 l0_1.length c0_1):=(blk_cell BK314.out 1).trans rfl;have hfz28_0:=blk_frozen BK314.out 0;have hfz28_1:=blk_frozen BK314.out 1;have hcz29_0:w26.cell? ⟨gb315,0,none⟩=some (.slice A1_0 l1_0.length c1_0):=(blk_cell BK315.out 0).trans rfl;have hcz29_1:w26.cell? ⟨gb315,1,none⟩=some (.slice A1_1 l1_1.length c1_1):=(blk_cell BK315.out 1).trans rfl;have hfz29_0:=blk_frozen BK315.out 0;have hfz29_1:=blk_frozen BK315.out 1)|((with_reducible refine gate_callee (f:=13) rfl ?_);refine goesL_ (some 9) rfl rfl Tryd.func13 (by kernel_rfl) rfl #[.slice A0_0 l0_0.length c0_0,.slice A1_0 l1_0.length c1_0] rfl qz2 ?_;(with_reducible refine (laws_eqTrmCellS.calls k _ _ l0_0 _ _ l1_0 false _ ?side1 ?side2 ?side3 ?side4 A3.out).mono ?_);(case side1=>exact qz8);(case side2=>exact HC0_0.out);(case side3=>exact qz81);(case side4=>exact HC1_0.out);rintro e w30 ⟨rfl,hb⟩;refine ⟨_,rfl,?_⟩;have n0_:=Aside0.mk (blk_below (g:=gb314) (o:=.cells #[.slice A0_0 l0_0.length c0_0,.slice A0_1 l0_1.length c0_1] 86 (0,0)) qz49 hb);have n1_:=Aside0.mk (blk_below (g:=gb315) (o:=.cells #[.slice A1_0 l1_0.length c1_0,.slice A1_1 l1_1.length c1_1] 86 (0,0)) qz106 hb);have n2_:=Aside0.mk (below_step qz55 hb);clear BK314 BK315 HB;have BK314:=n0_;have BK315:=n1_;have HB:=n2_;clear n0_ n1_ n2_;(try clear hb);(try clear hb2);(try clear hk);(try clear hi)))
  go_ret
  exact ⟨qz3,qz55⟩

end Go.Proofs.YtepkgjcobocbpaaDoor.P
