/- Contracts of functions of the program: each as a Lean function, and that its call does what that says; printed by cprint.py (this session) over print.py of the kit. Conditions: the hypotheses of each theorem. -/
import Derived.Test.YtlhniagacegbeaaDoorVZ
import Derived.Test.YtlhniagacegbeaaDoorP0
import Derived.Test.YtlhniagacegbeaaDoorP10
namespace Go.Proofs.YtlhniagacegbeaaDoor.P
open Go.RowKit Go.Proofs.YtlhniagacegbeaaDoorW.PrintWords Go.Proofs.YtlhniagacegbeaaDoorW.PrintLast Go.Proofs.YtlhniagacegbeaaDoorW.PrintMore
attribute [local go_sem] max2_int min2_int max_two min_two max_three min_three max_four min_four   -- for this text's walks alone
set_option linter.unusedVariables false
set_option linter.unusedSimpArgs false

/-! ### laws_eqTrmCellS: function 23 -/
def laws_eqTrmCellS.l0:Nat→List (S44)→List (S44)→Int→Option (Bool)
 | 0,_,_,_=>none
 | k+1,x0,x1,x5=>if x5<(x0.length:Int) then (if 0≤x5 then (if x5<(x1.length:Int) then ((laws_eqTrmCell.f ((rd_T44 x0 x5).f0) ((rd_T44 x0 x5).f1) ((rd_T44 x0 x5).f2) ((rd_T44 x1 x5).f0) ((rd_T44 x1 x5).f1) ((rd_T44 x1 x5).f2)).bind fun t236=>(if t236=true then (laws_eqTrmCellS.l0 k x0 x1 (wrap64 (x5+1))) else (some false))) else (none)) else (none)) else (some true)
def laws_eqTrmCellS.f (k:Nat) (l0:List (S44)) (l1:List (S44)):Option (Bool):=if (l0.length:Int)=(l1.length:Int) then (laws_eqTrmCellS.l0 k l0 l1 0) else (some false)
def laws_eqTrmCellS.T6:Bool × List (List Nat × List Nat):=(true,[([],[]),([],[]),([0,1],[0,1]),([2],[2]),([],[]),([],[]),([4,5],[4,5]),([6],[6]),([3,7],[3,7]),([8],[8])])
def laws_eqTrmCellS.B6:List Nat:=[0,0,3,7,0,0,48,112,255,511]
theorem laws_eqTrmCellS.tab6:rtab .any (opsOf Tryd.f23 6)=laws_eqTrmCellS.T6:=by kernel_rfl
theorem laws_eqTrmCellS.bits6:waitsOk laws_eqTrmCellS.T6.2 laws_eqTrmCellS.B6=true:=by kernel_rfl
set_option maxHeartbeats 8000000 in
set_option maxRecDepth 100000 in
theorem laws_eqTrmCellS.calls (k:Nat) (A0:Option Addr) (c0:Nat) (l0:List (S44)) (A1:Option Addr) (c1:Nat) (l1:List (S44)) (r:Bool) (w:World) (hr0:Kd.C k44 w A0 l0.length l0) (hc0:l0.length≤c0) (hr1:Kd.C k44 w A1 l1.length l1) (hc1:l1.length≤c1) (h:laws_eqTrmCellS.f k l0 l1=some r) :
  Calls Tryd.prog 23 #[.slice A0 l0.length c0,.slice A1 l1.length c1] w fun e w'=>e = .returned (.bool r)∧Below w.heap.size w w':=by
 have hu44:=Tryd.underlying44
 have HR0:=Aside0.mk hr0
 have HC0:=Aside0.mk hc0
 clear hr0 hc0
 have HR1:=Aside0.mk hr1
 have HC1:=Aside0.mk hc1
 clear hr1 hc1
 have HB:=Aside0.mk (Below.refl w.heap.size w)
 have H:(if (l0.length:Int)=(l1.length:Int) then (laws_eqTrmCellS.l0 k l0 l1 0) else (some false))=some r:=h
 clear h
 by_cases c3:(l0.length:Int)=(l1.length:Int)
 ·rw [if_pos c3] at H
  have c3b0:((l0.length:Int) == (l1.length:Int))=true:=beq_iff_eq.mpr c3
  have c3b1:((l0.length:Int) != (l1.length:Int))=false:=bne_eq_false_iff_eq.mpr c3
  have c3b2:(l0.length == l1.length)=true:=by first|simpa using c3|(simp at c3 ⊢;omega)
  clear c3
  have H':=Aside0.mk H
  clear H
  go_enter Tryd.func23,Tryd.ntmps23
  go_wp2
  go_loopg [5] k (fun kq v5 w'=>∃ (x5_1:Int),v5 = .int .i64 x5_1∧Aside0 (laws_eqTrmCellS.l0 kq l0 l1 x5_1=some r)∧Aside0 (kq≤k)∧Aside0 (Below w.heap.size w w'))
  case atStart=>exact ⟨(0),qz16,H',⟨Nat.le_refl _⟩,⟨qz6⟩⟩
  case round=>
   clear H'
   try clear c1
   try clear c2
   try clear p2
   try clear c3
   try clear c3b0
   try clear c3b1
   try clear c3b2
   obtain ⟨x5_1,rfl,HA,HK1,HB⟩:=hrel
   cases gk with
   | zero=>exact absurd HA.out (by simp [laws_eqTrmCellS.l0])
   | succ k1=>
    have H:=HA.out
    clear HA
    simp only [laws_eqTrmCellS.l0] at H
    by_cases c4:x5_1<(l0.length:Int)
    ·rw [if_pos c4] at H
     have c4b0:decide (x5_1<(l0.length:Int))=true:=decide_eq_true c4
     clear c4
     by_cases c5:0≤x5_1
     ·rw [if_pos c5] at H
      have c5b0:decide (0≤x5_1)=true:=decide_eq_true c5
      clear c5
      by_cases c6:x5_1<(l1.length:Int)
      ·rw [if_pos c6] at H
       have c6b0:decide (x5_1<(l1.length:Int))=true:=decide_eq_true c6
       clear c6
       replace H:=Option.bind_eq_some_iff.mp H
       obtain ⟨t236,A70,H⟩:=H
       try dsimp only at H
       have A7:=Aside0.mk A70
       clear A70
       by_cases c8:t236=true
       ·subst c8
        have H1:(laws_eqTrmCellS.l0 k1 l0 l1 (wrap64 (x5_1+1)))=some r:=qz42
        clear H
        have H:=H1
        clear H1
        have H':=Aside0.mk H
        clear H
        try go_wp2
        have n0_:=Aside0.mk (below_drew1 HB.out)
        clear HB
        have HB:=n0_
        clear n0_
        have p234:0≤(x5_1:Int):=of_decide_eq_true qz12
        have q234:x5_1<(l0.length:Int):=of_decide_eq_true qz12
        obtain ⟨ad234,e234,hx234_0,hx234_1,hx234_2⟩:=at_T44 HR0.out x5_1 p234 q234
        have hw234_2:=hx234_2
        have hw234_1:=hx234_1
        have hw234_0:=hx234_0
        cases e234
        replace hx234_0:=(HB.out.cell (World.block_lt_of_cell? w _ hx234_0)).trans hx234_0
        replace hx234_1:=(HB.out.cell (World.block_lt_of_cell? w _ hx234_1)).trans hx234_1
        replace hx234_2:=(HB.out.cell (World.block_lt_of_cell? w _ hx234_2)).trans hx234_2
        replace p234:=eq_true p234
        replace q234:=eq_true q234
        have p235:0≤(x5_1:Int):=of_decide_eq_true qz12
        have q235:x5_1<(l1.length:Int):=of_decide_eq_true qz12
        obtain ⟨ad235,e235,hx235_0,hx235_1,hx235_2⟩:=at_T44 HR1.out x5_1 p235 q235
        have hw235_2:=hx235_2
        have hw235_1:=hx235_1
        have hw235_0:=hx235_0
        cases e235
        replace hx235_0:=(HB.out.cell (World.block_lt_of_cell? w _ hx235_0)).trans hx235_0
        replace hx235_1:=(HB.out.cell (World.block_lt_of_cell? w _ hx235_1)).trans hx235_1
        replace hx235_2:=(HB.out.cell (World.block_lt_of_cell? w _ hx235_2)).trans hx235_2
        replace p235:=eq_true p235
        replace q235:=eq_true q235
        refine start_ (n:=10) (S:=fun w'=>w'.cell? (ad234.add ((x5_1).toNat * 3))=some (.int .i64 ((rd_T44 l0 x5_1).f0))∧w'.cell? ⟨(ad234.add ((x5_1).toNat * 3)).block,(ad234.add ((x5_1).toNat * 3)).off+1,none⟩=some (.int .i64 ((rd_T44 l0 x5_1).f1))∧w'.cell? ⟨(ad234.add ((x5_1).toNat * 3)).block,(ad234.add ((x5_1).toNat * 3)).off+2,none⟩=some (.string ((rd_T44 l0 x5_1).f2))∧w'.cell? (ad235.add ((x5_1).toNat * 3))=some (.int .i64 ((rd_T44 l1 x5_1).f0))∧w'.cell? ⟨(ad235.add ((x5_1).toNat * 3)).block,(ad235.add ((x5_1).toNat * 3)).off+1,none⟩=some (.int .i64 ((rd_T44 l1 x5_1).f1))∧w'.cell? ⟨(ad235.add ((x5_1).toNat * 3)).block,(ad235.add ((x5_1).toNat * 3)).off+2,none⟩=some (.string ((rd_T44 l1 x5_1).f2))) (ds:=[]) #[false,false,false,false,false,false,false,false,false,false] (by kernel_rfl) rfl rfl ⟨((HB.out.cell (World.block_lt_of_cell? w _ hw234_0)).trans hw234_0),((HB.out.cell (World.block_lt_of_cell? w _ hw234_1)).trans hw234_1),((HB.out.cell (World.block_lt_of_cell? w _ hw234_2)).trans hw234_2),((HB.out.cell (World.block_lt_of_cell? w _ hw235_0)).trans hw235_0),((HB.out.cell (World.block_lt_of_cell? w _ hw235_1)).trans hw235_1),((HB.out.cell (World.block_lt_of_cell? w _ hw235_2)).trans hw235_2)⟩ (fun hHeld=>?_);refine with_tabW laws_eqTrmCellS.tab6 laws_eqTrmCellS.bits6 (fun HT_ HW_=>?_)
        generalize wr.drew=w9 at HB hx234_0 hx234_1 hx234_2 hx235_0 hx235_1 hx235_2 hHeld ⊢
        refine pure_ (i:=0) (N:=some 17) (v:=?_) (a':=?_) #[true,false,false,false,false,false,false,false,false,false] rfl rfl (any_of HT_.out (by kernel_rfl)) (fun _ _ _ h=>h) (Or.inl ⟨by rfl,?_⟩) ?_ ?_
        rotate_left
        ·intro w'
         go_simp
         with_reducible rfl
        rotate_left
        ·simp only [Act.put,List.setIfInBounds_toArray,List.set_cons_zero,List.set_cons_succ,i64_w,i32_w]
         rfl
        refine pure_ (i:=1) (N:=some 18) (v:=?_) (a':=?_) #[true,true,false,false,false,false,false,false,false,false] rfl rfl (any_of HT_.out (by kernel_rfl)) (fun _ _ _ h=>h) (Or.inl ⟨by rfl,?_⟩) ?_ ?_
        rotate_left
        ·intro w'
         go_simp
         with_reducible rfl
        rotate_left
        ·simp only [Act.put,List.setIfInBounds_toArray,List.set_cons_zero,List.set_cons_succ,i64_w,i32_w]
         rfl
        refine pure_ (i:=2) (N:=some 19) (v:=?_) (a':=?_) #[true,true,true,false,false,false,false,false,false,false] rfl rfl (any_of HT_.out (by kernel_rfl)) (fun _ _ _ h=>h) (Or.inl ⟨by rfl,?_⟩) ?_ ?_
        rotate_left
        ·intro w'
         go_simp
         with_reducible rfl
        rotate_left
        ·simp only [Act.put,List.setIfInBounds_toArray,List.set_cons_zero,List.set_cons_succ,i64_w,i32_w]
         rfl
        refine pure_ (i:=4) (N:=some 21) (v:=?_) (a':=?_) #[true,true,true,false,true,false,false,false,false,false] rfl rfl (any_of HT_.out (by kernel_rfl)) (fun _ _ _ h=>h) (Or.inl ⟨by rfl,?_⟩) ?_ ?_
        rotate_left
        ·intro w'
         go_simp
         with_reducible rfl
        rotate_left
        ·simp only [Act.put,List.setIfInBounds_toArray,List.set_cons_zero,List.set_cons_succ,i64_w,i32_w]
         rfl
        refine pure_ (i:=5) (N:=some 22) (v:=?_) (a':=?_) #[true,true,true,false,true,true,false,false,false,false] rfl rfl (any_of HT_.out (by kernel_rfl)) (fun _ _ _ h=>h) (Or.inl ⟨by rfl,?_⟩) ?_ ?_
        rotate_left
        ·intro w'
         go_simp
         with_reducible rfl
        rotate_left
        ·simp only [Act.put,List.setIfInBounds_toArray,List.set_cons_zero,List.set_cons_succ,i64_w,i32_w]
         rfl
        refine pure_ (i:=6) (N:=some 23) (v:=?_) (a':=?_) #[true,true,true,false,true,true,true,false,false,false] rfl rfl (any_of HT_.out (by kernel_rfl)) (fun _ _ _ h=>h) (Or.inl ⟨by rfl,?_⟩) ?_ ?_
        rotate_left
        ·intro w'
         go_simp
         with_reducible rfl
        rotate_left
        ·simp only [Act.put,List.setIfInBounds_toArray,List.set_cons_zero,List.set_cons_succ,i64_w,i32_w]
         rfl
        refine take_ (i:=3) (N:=some 20) (v:=?_) (a':=?_) #[true,true,true,true,true,true,true,false,false,false] rfl rfl (take_ofW HT_.out HW_.out (by kernel_rfl)) (fun _ _ _ h=>h) (Or.inl ⟨by rfl,?_⟩) hHeld ?_ ?_
        rotate_left
        ·rintro w' ⟨s0,s1,s2,s3,s4,s5⟩
         go_simp
         with_reducible rfl
        rotate_left
        ·simp only [Act.put,List.setIfInBounds_toArray,List.set_cons_zero,List.set_cons_succ,i64_w,i32_w]
         rfl
        refine take_ (i:=7) (N:=some 24) (v:=?_) (a':=?_) #[true,true,true,true,true,true,true,true,false,false] rfl rfl (take_ofW HT_.out HW_.out (by kernel_rfl)) (fun _ _ _ h=>h) (Or.inl ⟨by rfl,?_⟩) hHeld ?_ ?_
        rotate_left
        ·rintro w' ⟨s0,s1,s2,s3,s4,s5⟩
         go_simp
         with_reducible rfl
        rotate_left
        ·simp only [Act.put,List.setIfInBounds_toArray,List.set_cons_zero,List.set_cons_succ,i64_w,i32_w]
         rfl
        refine one_ (i:=8) (N:=some 25) #[true,true,true,true,true,true,true,true,true,false] rfl rfl (one_of HT_.out (by kernel_rfl)) (by decide) (fun K hK=>?_)
        refine goes_ Tryd.func48 (by kernel_rfl) rfl #[.agg #[.int .i64 ((rd_T44 l0 x5_1).f0),.int .i64 ((rd_T44 l0 x5_1).f1),.string ((rd_T44 l0 x5_1).f2)],.agg #[.int .i64 ((rd_T44 l1 x5_1).f0),.int .i64 ((rd_T44 l1 x5_1).f1),.string ((rd_T44 l1 x5_1).f2)]] (by rfl) rfl rfl qz2 ?_
        with_reducible refine (laws_eqTrmCell.calls ((rd_T44 l0 x5_1).f0) ((rd_T44 l0 x5_1).f1) ((rd_T44 l0 x5_1).f2) ((rd_T44 l1 x5_1).f0) ((rd_T44 l1 x5_1).f1) ((rd_T44 l1 x5_1).f2) true _ A7.out).mono ?_
        rintro e w10 ⟨rfl,hb⟩
        refine ⟨_,rfl,?_⟩
        have n0_:=Aside0.mk (below_step qz1 hb)
        clear HB
        have HB:=n0_
        clear n0_
        (try clear hb)
        (try clear hb2)
        (try clear hk)
        (try clear hi)
        refine hK.out _ _ ⟨((HB.out.cell (World.block_lt_of_cell? w _ hw234_0)).trans hw234_0),((HB.out.cell (World.block_lt_of_cell? w _ hw234_1)).trans hw234_1),((HB.out.cell (World.block_lt_of_cell? w _ hw234_2)).trans hw234_2),((HB.out.cell (World.block_lt_of_cell? w _ hw235_0)).trans hw235_0),((HB.out.cell (World.block_lt_of_cell? w _ hw235_1)).trans hw235_1),((HB.out.cell (World.block_lt_of_cell? w _ hw235_2)).trans hw235_2)⟩ (fun hHeld=>?_)
        clear hK K
        refine norm_ (a':=?_) ?_ ?_
        rotate_left
        ·show Act.put _ (some 25) _=_
         simp only [Act.put,List.setIfInBounds_toArray,List.set_cons_zero,List.set_cons_succ,i64_w,i32_w]
         rfl
        refine pure_ (i:=9) (N:=some 26) (v:=?_) (a':=?_) #[true,true,true,true,true,true,true,true,true,true] rfl rfl (any_of HT_.out (by kernel_rfl)) (fun _ _ _ h=>h) (Or.inl ⟨by rfl,?_⟩) ?_ ?_
        rotate_left
        ·intro w'
         go_simp
         with_reducible rfl
        rotate_left
        ·simp only [Act.put,List.setIfInBounds_toArray,List.set_cons_zero,List.set_cons_succ,i64_w,i32_w]
         rfl
        refine done_ (done_of HT_.out (by kernel_rfl)) ?_
        try go_wp2
        go_roundg k1
        case measure=>have:=HK1.out;omega
        case rel=>exact ⟨(wrap64 (x5_1+1)),qz16,H',⟨by have:=HK1.out;omega⟩,⟨qz6⟩⟩
       ·replace c8:=Bool.eq_false_iff.mpr c8
        subst c8
        have H1:(some false)=some r:=qz29
        clear H
        have H:=H1
        clear H1
        obtain rfl:=Option.some.inj H
        try go_wp2
        have n0_:=Aside0.mk (below_drew1 HB.out)
        clear HB
        have HB:=n0_
        clear n0_
        have p234:0≤(x5_1:Int):=of_decide_eq_true qz12
        have q234:x5_1<(l0.length:Int):=of_decide_eq_true qz12
        obtain ⟨ad234,e234,hx234_0,hx234_1,hx234_2⟩:=at_T44 HR0.out x5_1 p234 q234
        have hw234_2:=hx234_2
        have hw234_1:=hx234_1
        have hw234_0:=hx234_0
        cases e234
        replace hx234_0:=(HB.out.cell (World.block_lt_of_cell? w _ hx234_0)).trans hx234_0
        replace hx234_1:=(HB.out.cell (World.block_lt_of_cell? w _ hx234_1)).trans hx234_1
        replace hx234_2:=(HB.out.cell (World.block_lt_of_cell? w _ hx234_2)).trans hx234_2
        replace p234:=eq_true p234
        replace q234:=eq_true q234
        have p235:0≤(x5_1:Int):=of_decide_eq_true qz12
        have q235:x5_1<(l1.length:Int):=of_decide_eq_true qz12
        obtain ⟨ad235,e235,hx235_0,hx235_1,hx235_2⟩:=at_T44 HR1.out x5_1 p235 q235
        have hw235_2:=hx235_2
        have hw235_1:=hx235_1
        have hw235_0:=hx235_0
        cases e235
        replace hx235_0:=(HB.out.cell (World.block_lt_of_cell? w _ hx235_0)).trans hx235_0
        replace hx235_1:=(HB.out.cell (World.block_lt_of_cell? w _ hx235_1)).trans hx235_1
        replace hx235_2:=(HB.out.cell (World.block_lt_of_cell? w _ hx235_2)).trans hx235_2
        replace p235:=eq_true p235
        replace q235:=eq_true q235
        refine start_ (n:=10) (S:=fun w'=>w'.cell? (ad234.add ((x5_1).toNat * 3))=some (.int .i64 ((rd_T44 l0 x5_1).f0))∧w'.cell? ⟨(ad234.add ((x5_1).toNat * 3)).block,(ad234.add ((x5_1).toNat * 3)).off+1,none⟩=some (.int .i64 ((rd_T44 l0 x5_1).f1))∧w'.cell? ⟨(ad234.add ((x5_1).toNat * 3)).block,(ad234.add ((x5_1).toNat * 3)).off+2,none⟩=some (.string ((rd_T44 l0 x5_1).f2))∧w'.cell? (ad235.add ((x5_1).toNat * 3))=some (.int .i64 ((rd_T44 l1 x5_1).f0))∧w'.cell? ⟨(ad235.add ((x5_1).toNat * 3)).block,(ad235.add ((x5_1).toNat * 3)).off+1,none⟩=some (.int .i64 ((rd_T44 l1 x5_1).f1))∧w'.cell? ⟨(ad235.add ((x5_1).toNat * 3)).block,(ad235.add ((x5_1).toNat * 3)).off+2,none⟩=some (.string ((rd_T44 l1 x5_1).f2))) (ds:=[]) #[false,false,false,false,false,false,false,false,false,false] (by kernel_rfl) rfl rfl ⟨((HB.out.cell (World.block_lt_of_cell? w _ hw234_0)).trans hw234_0),((HB.out.cell (World.block_lt_of_cell? w _ hw234_1)).trans hw234_1),((HB.out.cell (World.block_lt_of_cell? w _ hw234_2)).trans hw234_2),((HB.out.cell (World.block_lt_of_cell? w _ hw235_0)).trans hw235_0),((HB.out.cell (World.block_lt_of_cell? w _ hw235_1)).trans hw235_1),((HB.out.cell (World.block_lt_of_cell? w _ hw235_2)).trans hw235_2)⟩ (fun hHeld=>?_);refine with_tabW laws_eqTrmCellS.tab6 laws_eqTrmCellS.bits6 (fun HT_ HW_=>?_)
        generalize wr.drew=w11 at HB hx234_0 hx234_1 hx234_2 hx235_0 hx235_1 hx235_2 hHeld ⊢
        refine pure_ (i:=0) (N:=some 17) (v:=?_) (a':=?_) #[true,false,false,false,false,false,false,false,false,false] rfl rfl (any_of HT_.out (by kernel_rfl)) (fun _ _ _ h=>h) (Or.inl ⟨by rfl,?_⟩) ?_ ?_
        rotate_left
        ·intro w'
         go_simp
         with_reducible rfl
        rotate_left
        ·simp only [Act.put,List.setIfInBounds_toArray,List.set_cons_zero,List.set_cons_succ,i64_w,i32_w]
         rfl
        refine pure_ (i:=1) (N:=some 18) (v:=?_) (a':=?_) #[true,true,false,false,false,false,false,false,false,false] rfl rfl (any_of HT_.out (by kernel_rfl)) (fun _ _ _ h=>h) (Or.inl ⟨by rfl,?_⟩) ?_ ?_
        rotate_left
        ·intro w'
         go_simp
         with_reducible rfl
        rotate_left
        ·simp only [Act.put,List.setIfInBounds_toArray,List.set_cons_zero,List.set_cons_succ,i64_w,i32_w]
         rfl
        refine pure_ (i:=2) (N:=some 19) (v:=?_) (a':=?_) #[true,true,true,false,false,false,false,false,false,false] rfl rfl (any_of HT_.out (by kernel_rfl)) (fun _ _ _ h=>h) (Or.inl ⟨by rfl,?_⟩) ?_ ?_
        rotate_left
        ·intro w'
         go_simp
         with_reducible rfl
        rotate_left
        ·simp only [Act.put,List.setIfInBounds_toArray,List.set_cons_zero,List.set_cons_succ,i64_w,i32_w]
         rfl
        refine pure_ (i:=4) (N:=some 21) (v:=?_) (a':=?_) #[true,true,true,false,true,false,false,false,false,false] rfl rfl (any_of HT_.out (by kernel_rfl)) (fun _ _ _ h=>h) (Or.inl ⟨by rfl,?_⟩) ?_ ?_
        rotate_left
        ·intro w'
         go_simp
         with_reducible rfl
        rotate_left
        ·simp only [Act.put,List.setIfInBounds_toArray,List.set_cons_zero,List.set_cons_succ,i64_w,i32_w]
         rfl
        refine pure_ (i:=5) (N:=some 22) (v:=?_) (a':=?_) #[true,true,true,false,true,true,false,false,false,false] rfl rfl (any_of HT_.out (by kernel_rfl)) (fun _ _ _ h=>h) (Or.inl ⟨by rfl,?_⟩) ?_ ?_
        rotate_left
        ·intro w'
         go_simp
         with_reducible rfl
        rotate_left
        ·simp only [Act.put,List.setIfInBounds_toArray,List.set_cons_zero,List.set_cons_succ,i64_w,i32_w]
         rfl
        refine pure_ (i:=6) (N:=some 23) (v:=?_) (a':=?_) #[true,true,true,false,true,true,true,false,false,false] rfl rfl (any_of HT_.out (by kernel_rfl)) (fun _ _ _ h=>h) (Or.inl ⟨by rfl,?_⟩) ?_ ?_
        rotate_left
        ·intro w'
         go_simp
         with_reducible rfl
        rotate_left
        ·simp only [Act.put,List.setIfInBounds_toArray,List.set_cons_zero,List.set_cons_succ,i64_w,i32_w]
         rfl
        refine take_ (i:=3) (N:=some 20) (v:=?_) (a':=?_) #[true,true,true,true,true,true,true,false,false,false] rfl rfl (take_ofW HT_.out HW_.out (by kernel_rfl)) (fun _ _ _ h=>h) (Or.inl ⟨by rfl,?_⟩) hHeld ?_ ?_
        rotate_left
        ·rintro w' ⟨s0,s1,s2,s3,s4,s5⟩
         go_simp
         with_reducible rfl
        rotate_left
        ·simp only [Act.put,List.setIfInBounds_toArray,List.set_cons_zero,List.set_cons_succ,i64_w,i32_w]
         rfl
        refine take_ (i:=7) (N:=some 24) (v:=?_) (a':=?_) #[true,true,true,true,true,true,true,true,false,false] rfl rfl (take_ofW HT_.out HW_.out (by kernel_rfl)) (fun _ _ _ h=>h) (Or.inl ⟨by rfl,?_⟩) hHeld ?_ ?_
        rotate_left
        ·rintro w' ⟨s0,s1,s2,s3,s4,s5⟩
         go_simp
         with_reducible rfl
        rotate_left
        ·simp only [Act.put,List.setIfInBounds_toArray,List.set_cons_zero,List.set_cons_succ,i64_w,i32_w]
         rfl
        refine one_ (i:=8) (N:=some 25) #[true,true,true,true,true,true,true,true,true,false] rfl rfl (one_of HT_.out (by kernel_rfl)) (by decide) (fun K hK=>?_)
        refine goes_ Tryd.func48 (by kernel_rfl) rfl #[.agg #[.int .i64 ((rd_T44 l0 x5_1).f0),.int .i64 ((rd_T44 l0 x5_1).f1),.string ((rd_T44 l0 x5_1).f2)],.agg #[.int .i64 ((rd_T44 l1 x5_1).f0),.int .i64 ((rd_T44 l1 x5_1).f1),.string ((rd_T44 l1 x5_1).f2)]] (by rfl) rfl rfl qz2 ?_
        with_reducible refine (laws_eqTrmCell.calls ((rd_T44 l0 x5_1).f0) ((rd_T44 l0 x5_1).f1) ((rd_T44 l0 x5_1).f2) ((rd_T44 l1 x5_1).f0) ((rd_T44 l1 x5_1).f1) ((rd_T44 l1 x5_1).f2) false _ A7.out).mono ?_
        rintro e w12 ⟨rfl,hb⟩
        refine ⟨_,rfl,?_⟩
        have n0_:=Aside0.mk (below_step qz1 hb)
        clear HB
        have HB:=n0_
        clear n0_
        (try clear hb)
        (try clear hb2)
        (try clear hk)
        (try clear hi)
        refine hK.out _ _ ⟨((HB.out.cell (World.block_lt_of_cell? w _ hw234_0)).trans hw234_0),((HB.out.cell (World.block_lt_of_cell? w _ hw234_1)).trans hw234_1),((HB.out.cell (World.block_lt_of_cell? w _ hw234_2)).trans hw234_2),((HB.out.cell (World.block_lt_of_cell? w _ hw235_0)).trans hw235_0),((HB.out.cell (World.block_lt_of_cell? w _ hw235_1)).trans hw235_1),((HB.out.cell (World.block_lt_of_cell? w _ hw235_2)).trans hw235_2)⟩ (fun hHeld=>?_)
        clear hK K
        refine norm_ (a':=?_) ?_ ?_
        rotate_left
        ·show Act.put _ (some 25) _=_
         simp only [Act.put,List.setIfInBounds_toArray,List.set_cons_zero,List.set_cons_succ,i64_w,i32_w]
         rfl
        refine pure_ (i:=9) (N:=some 26) (v:=?_) (a':=?_) #[true,true,true,true,true,true,true,true,true,true] rfl rfl (any_of HT_.out (by kernel_rfl)) (fun _ _ _ h=>h) (Or.inl ⟨by rfl,?_⟩) ?_ ?_
        rotate_left
        ·intro w'
         go_simp
         with_reducible rfl
        rotate_left
        ·simp only [Act.put,List.setIfInBounds_toArray,List.set_cons_zero,List.set_cons_succ,i64_w,i32_w]
         rfl
        refine done_ (done_of HT_.out (by kernel_rfl)) ?_
        try go_wp2
        go_ret
        exact ⟨qz4,qz6⟩
      ·rw [if_neg c6] at H
       exact absurd H (by simp)
     ·rw [if_neg c5] at H
      exact absurd H (by simp)
    ·rw [if_neg c4] at H
     have c4b0:decide (x5_1<(l0.length:Int))=false:=decide_eq_false c4
     clear c4
     obtain rfl:=Option.some.inj H
     go_wp2
     go_ret
     exact ⟨qz4,qz6⟩
 ·rw [if_neg c3] at H
  have c3b0:((l0.length:Int) == (l1.length:Int))=false:=beq_eq_false_iff_ne.mpr c3
  have c3b1:((l0.length:Int) != (l1.length:Int))=true:=bne_iff_ne.mpr c3
  have c3b2:(l0.length == l1.length)=false:=by first|simpa using c3|(simp at c3 ⊢;omega)
  obtain rfl:=Option.some.inj H
  go_enter Tryd.func23,Tryd.ntmps23
  go_wp2
  go_ret
  exact ⟨qz4,qz6⟩

/-! ### laws_eqPrgGoal: function 9 -/
def laws_eqPrgGoal.f (k:Nat) (a0_0:Int) (l0_1:List (S44)) (l0_2:List (S44)) (l0_3:List (S44)) (a1_0:Int) (l1_1:List (S44)) (l1_2:List (S44)) (l1_3:List (S44)):Option (Bool):=if a0_0=a1_0 then ((laws_eqTrmCellS.f k l0_1 l1_1).bind fun t239=>(if t239=true then ((laws_eqTrmCellS.f k l0_2 l1_2).bind fun t240=>(if t240=true then ((laws_eqTrmCellS.f k l0_3 l1_3).bind fun t241=>(if t241=true then (some true) else (some false))) else (some false))) else (some false))) else (some false)
set_option maxHeartbeats 8000000 in
set_option maxRecDepth 100000 in
theorem laws_eqPrgGoal.calls (k:Nat) (a0_0:Int) (A0_1:Option Addr) (c0_1:Nat) (l0_1:List (S44)) (A0_2:Option Addr) (c0_2:Nat) (l0_2:List (S44)) (A0_3:Option Addr) (c0_3:Nat) (l0_3:List (S44)) (a1_0:Int) (A1_1:Option Addr) (c1_1:Nat) (l1_1:List (S44)) (A1_2:Option Addr) (c1_2:Nat) (l1_2:List (S44)) (A1_3:Option Addr) (c1_3:Nat) (l1_3:List (S44)) (r:Bool) (w:World) (hr0_1:Kd.C k44 w A0_1 l0_1.length l0_1) (hc0_1:l0_1.length≤c0_1) (hr0_2:Kd.C k44 w A0_2 l0_2.length l0_2) (hc0_2:l0_2.length≤c0_2) (hr0_3:Kd.C k44 w A0_3 l0_3.length l0_3) (hc0_3:l0_3.length≤c0_3) (hr1_1:Kd.C k44 w A1_1 l1_1.length l1_1) (hc1_1:l1_1.length≤c1_1) (hr1_2:Kd.C k44 w A1_2 l1_2.length l1_2) (hc1_2:l1_2.length≤c1_2) (hr1_3:Kd.C k44 w A1_3 l1_3.length l1_3) (hc1_3:l1_3.length≤c1_3) (h:laws_eqPrgGoal.f k a0_0 l0_1 l0_2 l0_3 a1_0 l1_1 l1_2 l1_3=some r) :
  Calls Tryd.prog 9 #[.agg #[.int .i64 a0_0,.slice A0_1 l0_1.length c0_1,.slice A0_2 l0_2.length c0_2,.slice A0_3 l0_3.length c0_3],.agg #[.int .i64 a1_0,.slice A1_1 l1_1.length c1_1,.slice A1_2 l1_2.length c1_2,.slice A1_3 l1_3.length c1_3]] w fun e w'=>e = .returned (.bool r)∧Below w.heap.size w w':=by
 have hu29:=Tryd.underlying29
 have HR0_1:=Aside0.mk hr0_1
 have HC0_1:=Aside0.mk hc0_1
 clear hr0_1 hc0_1
 have HR0_2:=Aside0.mk hr0_2
 have HC0_2:=Aside0.mk hc0_2
 clear hr0_2 hc0_2
 have HR0_3:=Aside0.mk hr0_3
 have HC0_3:=Aside0.mk hc0_3
 clear hr0_3 hc0_3
 have HR1_1:=Aside0.mk hr1_1
 have HC1_1:=Aside0.mk hc1_1
 clear hr1_1 hc1_1
 have HR1_2:=Aside0.mk hr1_2
 have HC1_2:=Aside0.mk hc1_2
 clear hr1_2 hc1_2
 have HR1_3:=Aside0.mk hr1_3
 have HC1_3:=Aside0.mk hc1_3
 clear hr1_3 hc1_3
 have HB:=Aside0.mk (Below.refl w.heap.size w)
 have H:(if a0_0=a1_0 then ((laws_eqTrmCellS.f k l0_1 l1_1).bind fun t239=>(if t239=true then ((laws_eqTrmCellS.f k l0_2 l1_2).bind fun t240=>(if t240=true then ((laws_eqTrmCellS.f k l0_3 l1_3).bind fun t241=>(if t241=true then (some true) else (some false))) else (some false))) else (some false))) else (some false))=some r:=h
 clear h
 by_cases c3:a0_0=a1_0
 ·rw [if_pos c3] at H
  have c3b0:(a0_0 == a1_0)=true:=beq_iff_eq.mpr c3
  have c3b1:(a0_0 != a1_0)=false:=bne_eq_false_iff_eq.mpr c3
  clear c3
  replace H:=Option.bind_eq_some_iff.mp H
  obtain ⟨t239,A40,H⟩:=H
  try dsimp only at H
  have A4:=Aside0.mk A40
  clear A40
  by_cases c5:t239=true
  ·subst c5
   have H1:((laws_eqTrmCellS.f k l0_2 l1_2).bind fun t240=>(if t240=true then ((laws_eqTrmCellS.f k l0_3 l1_3).bind fun t241=>(if t241=true then (some true) else (some false))) else (some false)))=some r:=qz42
   clear H
   have H:=H1
   clear H1
   replace H:=Option.bind_eq_some_iff.mp H
   obtain ⟨t240,A60,H⟩:=H
   try dsimp only at H
   have A6:=Aside0.mk A60
   clear A60
   by_cases c7:t240=true
   ·subst c7
    have H1:((laws_eqTrmCellS.f k l0_3 l1_3).bind fun t241=>(if t241=true then (some true) else (some false)))=some r:=qz42
    clear H
    have H:=H1
    clear H1
    replace H:=Option.bind_eq_some_iff.mp H
    obtain ⟨t241,A80,H⟩:=H
    try dsimp only at H
    have A8:=Aside0.mk A80
    clear A80
    by_cases c9:t241=true
    ·subst c9
     have H1:(some true)=some r:=qz42
     clear H
     have H:=H1
     clear H1
     obtain rfl:=Option.some.inj H
     go_enter Tryd.func9,Tryd.ntmps9
     go_wp2_with (first|((with_reducible refine gate_dst (N:=2) rfl ?_);refine box_event ?hg (N:=2) ?hd (cs:=#[.int .i64 a0_0,.slice A0_1 l0_1.length c0_1,.slice A0_2 l0_2.length c0_2,.slice A0_3 l0_3.length c0_3]) (t:=29) ?hr ?_;(case hd=>rfl);(case hg=>rfl);(case hr=>first|(go_simp;done)|(go_simp;rfl));intro gb237 hg w10 hbox hb;have n0_:=Aside0.mk (below_step qz1 hb);have n1_:=Aside0.mk (hbox);have n2_:=Aside0.mk ((by rw [hg];exact (below_size qz1):w.heap.size≤gb237));have n3_:=Aside0.mk ((by rw [hg];exact (below_size qz1):w.heap.size≤gb237));clear HB;have HB:=n0_;have BK237:=n1_;have GW237:=n2_;have GE237:=n3_;clear n0_ n1_ n2_ n3_ hb hbox hg)|((with_reducible refine gate_dst (N:=3) rfl ?_);refine box_event ?hg (N:=3) ?hd (cs:=#[.int .i64 a1_0,.slice A1_1 l1_1.length c1_1,.slice A1_2 l1_2.length c1_2,.slice A1_3 l1_3.length c1_3]) (t:=29) ?hr ?_;(case hd=>rfl);(case hg=>rfl);(case hr=>first|(go_simp;done)|(go_simp;rfl));intro gb238 hg w11 hbox hb;have n0_:=Aside0.mk (blk_below (g:=gb237) (o:=.cells #[.int .i64 a0_0,.slice A0_1 l0_1.length c0_1,.slice A0_2 l0_2.length c0_2,.slice A0_3 l0_3.length c0_3] 29 (0,0)) qz20 hb);have n1_:=Aside0.mk (below_step qz22 hb);have n2_:=Aside0.mk (hbox);have n3_:=Aside0.mk ((by rw [hg];exact (below_size qz22):w.heap.size≤gb238));have n4_:=Aside0.mk ((by rw [hg];exact (below_size qz22):w.heap.size≤gb238));have n5_:=Aside0.mk ((by rw [hg];exact Nat.ne_of_lt (blk_lt (g:=gb237) (o:=.cells #[.int .i64 a0_0,.slice A0_1 l0_1.length c0_1,.slice A0_2 l0_2.length c0_2,.slice A0_3 l0_3.length c0_3] 29 (0,0)) qz20):gb237≠gb238));have n6_:=Aside0.mk ((by rw [hg];exact Nat.ne_of_gt (blk_lt (g:=gb237) (o:=.cells #[.int .i64 a0_0,.slice A0_1 l0_1.length c0_1,.slice A0_2 l0_2.length c0_2,.slice A0_3 l0_3.length c0_3] 29 (0,0)) qz20):gb238≠gb237));clear BK237 HB;have BK237:=n0_;have HB:=n1_;have BK238:=n2_;have GW238:=n3_;have GE238:=n4_;have NB237_238:=n5_;have NB238_237:=n6_;clear n0_ n1_ n2_ n3_ n4_ n5_ n6_ hb hbox hg;have hnb12:=NB237_238.out;have hnc12:=NB238_237.out;have hcz13_0:w11.cell? ⟨gb237,0,none⟩=some (.int .i64 a0_0):=(blk_cell BK237.out 0).trans rfl;have hcz13_1:w11.cell? ⟨gb237,1,none⟩=some (.slice A0_1 l0_1.length c0_1):=(blk_cell BK237.out 1).trans rfl;have hcz13_2:w11.cell? ⟨gb237,2,none⟩=some (.slice A0_2 l0_2.length c0_2):=(blk_cell BK237.out 2).trans rfl;have hcz13_3:w11.cell? ⟨gb237,3,none⟩=some (.slice A0_3 l0_3.length c0_3):=(blk_cell BK237.out 3).trans rfl;have hfz13_0:=blk_frozen BK237.out 0;have hfz13_1:=blk_frozen BK237.out 1;have hfz13_2:=blk_frozen BK237.out 2;have hfz13_3:=blk_frozen BK237.out 3;have hcz14_0:w11.cell? ⟨gb238,0,none⟩=some (.int .i64 a1_0):=(blk_cell BK238.out 0).trans rfl;have hcz14_1:w11.cell? ⟨gb238,1,none⟩=some (.slice A1_1 l1_1.length c1_1):=(blk_cell BK238.out 1).trans rfl;have hcz14_2:w11.cell? ⟨gb238,2,none⟩=some (.slice A1_2 l1_2.length c1_2):=(blk_cell BK238.out 2).trans rfl;have hcz14_3:w11.cell? ⟨gb238,3,none⟩=some (.slice A1_3 l1_3.length c1_3):=(blk_cell BK238.out 3).trans rfl;have hfz14_0:=blk_frozen BK238.out 0;have hfz14_1:=blk_frozen BK238.out 1;have hfz14_2:=blk_frozen BK238.out 2;have hfz14_3:=blk_frozen BK238.out 3)|((with_reducible refine gate_callee (f:=23) rfl ?_);refine goesL_ (some 14) rfl rfl Tryd.func23 (by kernel_rfl) rfl #[.slice A0_1 l0_1.length c0_1,.slice A1_1 l1_1.length c1_1] rfl qz2 ?_;(with_reducible refine (laws_eqTrmCellS.calls k _ _ l0_1 _ _ l1_1 true _ ?side1 ?side2 ?side3 ?side4 A4.out).mono ?_);(case side1=>exact qz3);(case side2=>exact HC0_1.out);(case side3=>exact qz48);(case side4=>exact HC1_1.out);rintro e w15 ⟨rfl,hb⟩;refine ⟨_,rfl,?_⟩;have n0_:=Aside0.mk (blk_below (g:=gb237) (o:=.cells #[.int .i64 a0_0,.slice A0_1 l0_1.length c0_1,.slice A0_2 l0_2.length c0_2,.slice A0_3 l0_3.length c0_3] 29 (0,0)) qz20 hb);have n1_:=Aside0.mk (blk_below (g:=gb238) (o:=.cells #[.int .i64 a1_0,.slice A1_1 l1_1.length c1_1,.slice A1_2 l1_2.length c1_2,.slice A1_3 l1_3.length c1_3] 29 (0,0)) qz40 hb);have n2_:=Aside0.mk (below_step qz21 hb);clear BK237 BK238 HB;have BK237:=n0_;have BK238:=n1_;have HB:=n2_;clear n0_ n1_ n2_;(try clear hb);(try clear hb2);(try clear hk);(try clear hi);have hcz16_0:w15.cell? ⟨gb237,0,none⟩=some (.int .i64 a0_0):=(blk_cell BK237.out 0).trans rfl;have hcz16_1:w15.cell? ⟨gb237,1,none⟩=some (.slice A0_1 l0_1.length c0_1):=(blk_cell BK237.out 1).trans rfl;have hcz16_2:w15.cell? ⟨gb237,2,none⟩=some (.slice A0_2 l0_2.length c0_2):=(blk_cell BK237.out 2).trans rfl;have hcz16_3:w15.cell? ⟨gb237,3,none⟩=some (.slice A0_3 l0_3.length c0_3):=(blk_cell BK237.out 3).trans rfl;have hfz16_0:=blk_frozen BK237.out 0;have hfz16_1:=blk_frozen BK237.out 1;have hfz16_2:=blk_frozen BK237.out 2;have hfz16_3:=blk_frozen BK237.out 3;have hcz17_0:w15.cell? ⟨gb238,0,none⟩=some (.int .i64 a1_0):=(blk_cell BK238.out 0).trans rfl;have hcz17_1:w15.cell? ⟨gb238,1,none⟩=some (.slice A1_1 l1_1.length c1_1):=(blk_cell BK238.out 1).trans rfl;have hcz17_2:w15.cell? ⟨gb238,2,none⟩=some (.slice A1_2 l1_2.length c1_2):=(blk_cell BK238.out 2).trans rfl;have hcz17_3:w15.cell? ⟨gb238,3,none⟩=some (.slice A1_3 l1_3.length c1_3):=(blk_cell BK238.out 3).trans rfl;have hfz17_0:=blk_frozen BK238.out 0;have hfz17_1:=blk_frozen BK238.out 1;have hfz17_2:=blk_frozen BK238.out 2;have hfz17_3:=blk_frozen BK238.out 3)|((with_reducible refine gate_callee (f:=23) rfl ?_);refine goesL_ (some 20) rfl rfl Tryd.func23 (by kernel_rfl) rfl #[.slice A0_2 l0_2.length c0_2,.slice A1_2 l1_2.length c1_2] rfl qz2 ?_;(with_reducible refine (laws_eqTrmCellS.calls k _ _ l0_2 _ _ l1_2 true _ ?side1 ?side2 ?side3 ?side4 A6.out).mono ?_);(case side1=>exact qz5);(case side2=>exact HC0_2.out);(case side3=>exact qz62);(case side4=>exact HC1_2.out);rintro e w18 ⟨rfl,hb⟩;refine ⟨_,rfl,?_⟩;have n0_:=Aside0.mk (blk_below (g:=gb237) (o:=.cells #[.int .i64 a0_0,.slice A0_1 l0_1.length c0_1,.slice A0_2 l0_2.length c0_2,.slice A0_3 l0_3.length c0_3] 29 (0,0)) qz20 hb);have n1_:=Aside0.mk (blk_below (g:=gb238) (o:=.cells #[.int .i64 a1_0,.slice A1_1 l1_1.length c1_1,.slice A1_2 l1_2.length c1_2,.slice A1_3 l1_3.length c1_3] 29 (0,0)) qz40 hb);have n2_:=Aside0.mk (below_step qz21 hb);clear BK237 BK238 HB;have BK237:=n0_;have BK238:=n1_;have HB:=n2_;clear n0_ n1_ n2_;(try clear hb);(try clear hb2);(try clear hk);(try clear hi);have hcz19_0:w18.cell? ⟨gb237,0,none⟩=some (.int .i64 a0_0):=(blk_cell BK237.out 0).trans rfl;have hcz19_1:w18.cell? ⟨gb237,1,none⟩=some (.slice A0_1 l0_1.length c0_1):=(blk_cell BK237.out 1).trans rfl;have hcz19_2:w18.cell? ⟨gb237,2,none⟩=some (.slice A0_2 l0_2.length c0_2):=(blk_cell BK237.out 2).trans rfl;have hcz19_3:w18.cell? ⟨gb237,3,none⟩=some (.slice A0_3 l0_3.length c0_3):=(blk_cell BK237.out 3).trans rfl;have hfz19_0:=blk_frozen BK237.out 0;have hfz19_1:=blk_frozen BK237.out 1;have hfz19_2:=blk_frozen BK237.out 2;have hfz19_3:=blk_frozen BK237.out 3;have hcz20_0:w18.cell? ⟨gb238,0,none⟩=some (.int .i64 a1_0):=(blk_cell BK238.out 0).trans rfl;have hcz20_1:w18.cell? ⟨gb238,1,none⟩=some (.slice A1_1 l1_1.length c1_1):=(blk_cell BK238.out 1).trans rfl;have hcz20_2:w18.cell? ⟨gb238,2,none⟩=some (.slice A1_2 l1_2.length c1_2):=(blk_cell BK238.out 2).trans rfl;have hcz20_3:w18.cell? ⟨gb238,3,none⟩=some (.slice A1_3 l1_3.length c1_3):=(blk_cell BK238.out 3).trans rfl;have hfz20_0:=blk_frozen BK238.out 0;have hfz20_1:=blk_frozen BK238.out 1;have hfz20_2:=blk_frozen BK238.out 2;have hfz20_3:=blk_frozen BK238.out 3)|((with_reducible refine gate_callee (f:=23) rfl ?_);refine goesL_ (some 26) rfl rfl Tryd.func23 (by kernel_rfl) rfl #[.slice A0_3 l0_3.length c0_3,.slice A1_3 l1_3.length c1_3] rfl qz2 ?_;(with_reducible refine (laws_eqTrmCellS.calls k _ _ l0_3 _ _ l1_3 true _ ?side1 ?side2 ?side3 ?side4 A8.out).mono ?_);(case side1=>exact qz8);(case side2=>exact HC0_3.out);(case side3=>exact qz81);(case side4=>exact HC1_3.out);rintro e w21 ⟨rfl,hb⟩;refine ⟨_,rfl,?_⟩;have n0_:=Aside0.mk (blk_below (g:=gb237) (o:=.cells #[.int .i64 a0_0,.slice A0_1 l0_1.length c0_1,.slice A0_2 l0_2.length c0_2,.slice A0_3 l0_3.length c0_3] 29 (0,0)) qz20 hb);have n1_:=Aside0.mk (blk_below (g:=gb238) (o:=.cells #[.int .i64 a1_0,.slice A1_1 l1_1.length c1_1,.slice A1_2 l1_2.length c1_2,.slice A1_3 l1_3.length c1_3] 29 (0,0)) qz40 hb);have n2_:=Aside0.mk (below_step qz21 hb);clear BK237 BK238 HB;have BK237:=n0_;have BK238:=n1_;have HB:=n2_;clear n0_ n1_ n2_;(try clear hb);(try clear hb2);(try clear hk);(try clear hi)))
     go_ret
     exact ⟨qz4,qz21⟩
    ·replace c9:=Bool.eq_false_iff.mpr c9
     subst c9
     have H1:(some false)=some r:=qz29
     clear H
     have H:=H1
     clear H1
     obtain rfl:=Option.some.inj H
     go_enter Tryd.func9,Tryd.ntmps9
     go_wp2_with (first|((with_reducible refine gate_dst (N:=2) rfl ?_);refine box_event ?hg (N:=2) ?hd (cs:=#[.int .i64 a0_0,.slice A0_1 l0_1.length c0_1,.slice A0_2 l0_2.length c0_2,.slice A0_3 l0_3.length c0_3]) (t:=29) ?hr ?_;(case hd=>rfl);(case hg=>rfl);(case hr=>first|(go_simp;done)|(go_simp;rfl));intro gb237 hg w22 hbox hb;have n0_:=Aside0.mk (below_step qz1 hb);have n1_:=Aside0.mk (hbox);have n2_:=Aside0.mk ((by rw [hg];exact (below_size qz1):w.heap.size≤gb237));have n3_:=Aside0.mk ((by rw [hg];exact (below_size qz1):w.heap.size≤gb237));clear HB;have HB:=n0_;have BK237:=n1_;have GW237:=n2_;have GE237:=n3_;clear n0_ n1_ n2_ n3_ hb hbox hg)|((with_reducible refine gate_dst (N:=3) rfl ?_);refine box_event ?hg (N:=3) ?hd (cs:=#[.int .i64 a1_0,.slice A1_1 l1_1.length c1_1,.slice A1_2 l1_2.length c1_2,.slice A1_3 l1_3.length c1_3]) (t:=29) ?hr ?_;(case hd=>rfl);(case hg=>rfl);(case hr=>first|(go_simp;done)|(go_simp;rfl));intro gb238 hg w23 hbox hb;have n0_:=Aside0.mk (blk_below (g:=gb237) (o:=.cells #[.int .i64 a0_0,.slice A0_1 l0_1.length c0_1,.slice A0_2 l0_2.length c0_2,.slice A0_3 l0_3.length c0_3] 29 (0,0)) qz20 hb);have n1_:=Aside0.mk (below_step qz22 hb);have n2_:=Aside0.mk (hbox);have n3_:=Aside0.mk ((by rw [hg];exact (below_size qz22):w.heap.size≤gb238));have n4_:=Aside0.mk ((by rw [hg];exact (below_size qz22):w.heap.size≤gb238));have n5_:=Aside0.mk ((by rw [hg];exact Nat.ne_of_lt (blk_lt (g:=gb237) (o:=.cells #[.int .i64 a0_0,.slice A0_1 l0_1.length c0_1,.slice A0_2 l0_2.length c0_2,.slice A0_3 l0_3.length c0_3] 29 (0,0)) qz20):gb237≠gb238));have n6_:=Aside0.mk ((by rw [hg];exact Nat.ne_of_gt (blk_lt (g:=gb237) (o:=.cells #[.int .i64 a0_0,.slice A0_1 l0_1.length c0_1,.slice A0_2 l0_2.length c0_2,.slice A0_3 l0_3.length c0_3] 29 (0,0)) qz20):gb238≠gb237));clear BK237 HB;have BK237:=n0_;have HB:=n1_;have BK238:=n2_;have GW238:=n3_;have GE238:=n4_;have NB237_238:=n5_;have NB238_237:=n6_;clear n0_ n1_ n2_ n3_ n4_ n5_ n6_ hb hbox hg;have hnb24:=NB237_238.out;have hnc24:=NB238_237.out;have hcz25_0:w23.cell? ⟨gb237,0,none⟩=some (.int .i64 a0_0):=(blk_cell BK237.out 0).trans rfl;have hcz25_1:w23.cell? ⟨gb237,1,none⟩=some (.slice A0_1 l0_1.length c0_1):=(blk_cell BK237.out 1).trans rfl;have hcz25_2:w23.cell? ⟨gb237,2,none⟩=some (.slice A0_2 l0_2.length c0_2):=(blk_cell BK237.out 2).trans rfl;have hcz25_3:w23.cell? ⟨gb237,3,none⟩=some (.slice A0_3 l0_3.length c0_3):=(blk_cell BK237.out 3).trans rfl;have hfz25_0:=blk_frozen BK237.out 0;have hfz25_1:=blk_frozen BK237.out 1;have hfz25_2:=blk_frozen BK237.out 2;have hfz25_3:=blk_frozen BK237.out 3;have hcz26_0:w23.cell? ⟨gb238,0,none⟩=some (.int .i64 a1_0):=(blk_cell BK238.out 0).trans rfl;have hcz26_1:w23.cell? ⟨gb238,1,none⟩=some (.slice A1_1 l1_1.length c1_1):=(blk_cell BK238.out 1).trans rfl;have hcz26_2:w23.cell? ⟨gb238,2,none⟩=some (.slice A1_2 l1_2.length c1_2):=(blk_cell BK238.out 2).trans rfl;have hcz26_3:w23.cell? ⟨gb238,3,none⟩=some (.slice A1_3 l1_3.length c1_3):=(blk_cell BK238.out 3).trans rfl;have hfz26_0:=blk_frozen BK238.out 0;have hfz26_1:=blk_frozen BK238.out 1;have hfz26_2:=blk_frozen BK238.out 2;have hfz26_3:=blk_frozen BK238.out 3)|((with_reducible refine gate_callee (f:=23) rfl ?_);refine goesL_ (some 14) rfl rfl Tryd.func23 (by kernel_rfl) rfl #[.slice A0_1 l0_1.length c0_1,.slice A1_1 l1_1.length c1_1] rfl qz2 ?_;(with_reducible refine (laws_eqTrmCellS.calls k _ _ l0_1 _ _ l1_1 true _ ?side1 ?side2 ?side3 ?side4 A4.out).mono ?_);(case side1=>exact qz3);(case side2=>exact HC0_1.out);(case side3=>exact qz48);(case side4=>exact HC1_1.out);rintro e w27 ⟨rfl,hb⟩;refine ⟨_,rfl,?_⟩;have n0_:=Aside0.mk (blk_below (g:=gb237) (o:=.cells #[.int .i64 a0_0,.slice A0_1 l0_1.length c0_1,.slice A0_2 l0_2.length c0_2,.slice A0_3 l0_3.length c0_3] 29 (0,0)) qz20 hb);have n1_:=Aside0.mk (blk_below (g:=gb238) (o:=.cells #[.int .i64 a1_0,.slice A1_1 l1_1.length c1_1,.slice A1_2 l1_2.length c1_2,.slice A1_3 l1_3.length c1_3] 29 (0,0)) qz40 hb);have n2_:=Aside0.mk (below_step qz21 hb);clear BK237 BK238 HB;have BK237:=n0_;have BK238:=n1_;have HB:=n2_;clear n0_ n1_ n2_;(try clear hb);(try clear hb2);(try clear hk);(try clear hi);have hcz28_0:w27.cell? ⟨gb237,0,none⟩=some (.int .i64 a0_0):=(blk_cell BK237.out 0).trans rfl;have hcz28_1:w27.cell? ⟨gb237,1,none⟩=some (.slice A0_1 l0_1.length c0_1):=(blk_cell BK237.out 1).trans rfl;have hcz28_2:w27.cell? ⟨gb237,2,none⟩=some (.slice A0_2 l0_2.length c0_2):=(blk_cell BK237.out 2).trans rfl;have hcz28_3:w27.cell? ⟨gb237,3,none⟩=some (.slice A0_3 l0_3.length c0_3):=(blk_cell BK237.out 3).trans rfl;have hfz28_0:=blk_frozen BK237.out 0;have hfz28_1:=blk_frozen BK237.out 1;have hfz28_2:=blk_frozen BK237.out 2;have hfz28_3:=blk_frozen BK237.out 3;have hcz29_0:w27.cell? ⟨gb238,0,none⟩=some (.int .i64 a1_0):=(blk_cell BK238.out 0).trans rfl;have hcz29_1:w27.cell? ⟨gb238,1,none⟩=some (.slice A1_1 l1_1.length c1_1):=(blk_cell BK238.out 1).trans rfl;have hcz29_2:w27.cell? ⟨gb238,2,none⟩=some (.slice A1_2 l1_2.length c1_2):=(blk_cell BK238.out 2).trans rfl;have hcz29_3:w27.cell? ⟨gb238,3,none⟩=some (.slice A1_3 l1_3.length c1_3):=(blk_cell BK238.out 3).trans rfl;have hfz29_0:=blk_frozen BK238.out 0;have hfz29_1:=blk_frozen BK238.out 1;have hfz29_2:=blk_frozen BK238.out 2;have hfz29_3:=blk_frozen BK238.out 3)|((with_reducible refine gate_callee (f:=23) rfl ?_);refine goesL_ (some 20) rfl rfl Tryd.func23 (by kernel_rfl) rfl #[.slice A0_2 l0_2.length c0_2,.slice A1_2 l1_2.length c1_2] rfl qz2 ?_;(with_reducible refine (laws_eqTrmCellS.calls k _ _ l0_2 _ _ l1_2 true _ ?side1 ?side2 ?side3 ?side4 A6.out).mono ?_);(case side1=>exact qz5);(case side2=>exact HC0_2.out);(case side3=>exact qz62);(case side4=>exact HC1_2.out);rintro e w30 ⟨rfl,hb⟩;refine ⟨_,rfl,?_⟩;have n0_:=Aside0.mk (blk_below (g:=gb237) (o:=.cells #[.int .i64 a0_0,.slice A0_1 l0_1.length c0_1,.slice A0_2 l0_2.length c0_2,.slice A0_3 l0_3.length c0_3] 29 (0,0)) qz20 hb);have n1_:=Aside0.mk (blk_below (g:=gb238) (o:=.cells #[.int .i64 a1_0,.slice A1_1 l1_1.length c1_1,.slice A1_2 l1_2.length c1_2,.slice A1_3 l1_3.length c1_3] 29 (0,0)) qz40 hb);have n2_:=Aside0.mk (below_step qz21 hb);clear BK237 BK238 HB;have BK237:=n0_;have BK238:=n1_;have HB:=n2_;clear n0_ n1_ n2_;(try clear hb);(try clear hb2);(try clear hk);(try clear hi);have hcz31_0:w30.cell? ⟨gb237,0,none⟩=some (.int .i64 a0_0):=(blk_cell BK237.out 0).trans rfl;have hcz31_1:w30.cell? ⟨gb237,1,none⟩=some (.slice A0_1 l0_1.length c0_1):=(blk_cell BK237.out 1).trans rfl;have hcz31_2:w30.cell? ⟨gb237,2,none⟩=some (.slice A0_2 l0_2.length c0_2):=(blk_cell BK237.out 2).trans rfl;have hcz31_3:w30.cell? ⟨gb237,3,none⟩=some (.slice A0_3 l0_3.length c0_3):=(blk_cell BK237.out 3).trans rfl;have hfz31_0:=blk_frozen BK237.out 0;have hfz31_1:=blk_frozen BK237.out 1;have hfz31_2:=blk_frozen BK237.out 2;have hfz31_3:=blk_frozen BK237.out 3;have hcz32_0:w30.cell? ⟨gb238,0,none⟩=some (.int .i64 a1_0):=(blk_cell BK238.out 0).trans rfl;have hcz32_1:w30.cell? ⟨gb238,1,none⟩=some (.slice A1_1 l1_1.length c1_1):=(blk_cell BK238.out 1).trans rfl;have hcz32_2:w30.cell? ⟨gb238,2,none⟩=some (.slice A1_2 l1_2.length c1_2):=(blk_cell BK238.out 2).trans rfl;have hcz32_3:w30.cell? ⟨gb238,3,none⟩=some (.slice A1_3 l1_3.length c1_3):=(blk_cell BK238.out 3).trans rfl;have hfz32_0:=blk_frozen BK238.out 0;have hfz32_1:=blk_frozen BK238.out 1;have hfz32_2:=blk_frozen BK238.out 2;have hfz32_3:=blk_frozen BK238.out 3)|((with_reducible refine gate_callee (f:=23) rfl ?_);refine goesL_ (some 26) rfl rfl Tryd.func23 (by kernel_rfl) rfl #[.slice A0_3 l0_3.length c0_3,.slice A1_3 l1_3.length c1_3] rfl qz2 ?_;(with_reducible refine (laws_eqTrmCellS.calls k _ _ l0_3 _ _ l1_3 false _ ?side1 ?side2 ?side3 ?side4 A8.out).mono ?_);(case side1=>exact qz8);(case side2=>exact HC0_3.out);(case side3=>exact qz81);(case side4=>exact HC1_3.out);rintro e w33 ⟨rfl,hb⟩;refine ⟨_,rfl,?_⟩;have n0_:=Aside0.mk (blk_below (g:=gb237) (o:=.cells #[.int .i64 a0_0,.slice A0_1 l0_1.length c0_1,.slice A0_2 l0_2.length c0_2,.slice A0_3 l0_3.length c0_3] 29 (0,0)) qz20 hb);have n1_:=Aside0.mk (blk_below (g:=gb238) (o:=.cells #[.int .i64 a1_0,.slice A1_1 l1_1.length c1_1,.slice A1_2 l1_2.length c1_2,.slice A1_3 l1_3.length c1_3] 29 (0,0)) qz40 hb);have n2_:=Aside0.mk (below_step qz21 hb);clear BK237 BK238 HB;have BK237:=n0_;have BK238:=n1_;have HB:=n2_;clear n0_ n1_ n2_;(try clear hb);(try clear hb2);(try clear hk);(try clear hi)))
     go_ret
     exact ⟨qz4,qz21⟩
   ·replace c7:=Bool.eq_false_iff.mpr c7
    subst c7
    have H1:(some false)=some r:=qz29
    clear H
    have H:=H1
    clear H1
    obtain rfl:=Option.some.inj H
    go_enter Tryd.func9,Tryd.ntmps9
    go_wp2_with (first|((with_reducible refine gate_dst (N:=2) rfl ?_);refine box_event ?hg (N:=2) ?hd (cs:=#[.int .i64 a0_0,.slice A0_1 l0_1.length c0_1,.slice A0_2 l0_2.length c0_2,.slice A0_3 l0_3.length c0_3]) (t:=29) ?hr ?_;(case hd=>rfl);(case hg=>rfl);(case hr=>first|(go_simp;done)|(go_simp;rfl));intro gb237 hg w34 hbox hb;have n0_:=Aside0.mk (below_step qz1 hb);have n1_:=Aside0.mk (hbox);have n2_:=Aside0.mk ((by rw [hg];exact (below_size qz1):w.heap.size≤gb237));have n3_:=Aside0.mk ((by rw [hg];exact (below_size qz1):w.heap.size≤gb237));clear HB;have HB:=n0_;have BK237:=n1_;have GW237:=n2_;have GE237:=n3_;clear n0_ n1_ n2_ n3_ hb hbox hg)|((with_reducible refine gate_dst (N:=3) rfl ?_);refine box_event ?hg (N:=3) ?hd (cs:=#[.int .i64 a1_0,.slice A1_1 l1_1.length c1_1,.slice A1_2 l1_2.length c1_2,.slice A1_3 l1_3.length c1_3]) (t:=29) ?hr ?_;(case hd=>rfl);(case hg=>rfl);(case hr=>first|(go_simp;done)|(go_simp;rfl));intro gb238 hg w35 hbox hb;have n0_:=Aside0.mk (blk_below (g:=gb237) (o:=.cells #[.int .i64 a0_0,.slice A0_1 l0_1.length c0_1,.slice A0_2 l0_2.length c0_2,.slice A0_3 l0_3.length c0_3] 29 (0,0)) qz20 hb);have n1_:=Aside0.mk (below_step qz22 hb);have n2_:=Aside0.mk (hbox);have n3_:=Aside0.mk ((by rw [hg];exact (below_size qz22):w.heap.size≤gb238));have n4_:=Aside0.mk ((by rw [hg];exact (below_size qz22):w.heap.size≤gb238));have n5_:=Aside0.mk ((by rw [hg];exact Nat.ne_of_lt (blk_lt (g:=gb237) (o:=.cells #[.int .i64 a0_0,.slice A0_1 l0_1.length c0_1,.slice A0_2 l0_2.length c0_2,.slice A0_3 l0_3.length c0_3] 29 (0,0)) qz20):gb237≠gb238));have n6_:=Aside0.mk ((by rw [hg];exact Nat.ne_of_gt (blk_lt (g:=gb237) (o:=.cells #[.int .i64 a0_0,.slice A0_1 l0_1.length c0_1,.slice A0_2 l0_2.length c0_2,.slice A0_3 l0_3.length c0_3] 29 (0,0)) qz20):gb238≠gb237));clear BK237 HB;have BK237:=n0_;have HB:=n1_;have BK238:=n2_;have GW238:=n3_;have GE238:=n4_;have NB237_238:=n5_;have NB238_237:=n6_;clear n0_ n1_ n2_ n3_ n4_ n5_ n6_ hb hbox hg;have hnb36:=NB237_238.out;have hnc36:=NB238_237.out;have hcz37_0:w35.cell? ⟨gb237,0,none⟩=some (.int .i64 a0_0):=(blk_cell BK237.out 0).trans rfl;have hcz37_1:w35.cell? ⟨gb237,1,none⟩=some (.slice A0_1 l0_1.length c0_1):=(blk_cell BK237.out 1).trans rfl;have hcz37_2:w35.cell? ⟨gb237,2,none⟩=some (.slice A0_2 l0_2.length c0_2):=(blk_cell BK237.out 2).trans rfl;have hcz37_3:w35.cell? ⟨gb237,3,none⟩=some (.slice A0_3 l0_3.length c0_3):=(blk_cell BK237.out 3).trans rfl;have hfz37_0:=blk_frozen BK237.out 0;have hfz37_1:=blk_frozen BK237.out 1;have hfz37_2:=blk_frozen BK237.out 2;have hfz37_3:=blk_frozen BK237.out 3;have hcz38_0:w35.cell? ⟨gb238,0,none⟩=some (.int .i64 a1_0):=(blk_cell BK238.out 0).trans rfl;have hcz38_1:w35.cell? ⟨gb238,1,none⟩=some (.slice A1_1 l1_1.length c1_1):=(blk_cell BK238.out 1).trans rfl;have hcz38_2:w35.cell? ⟨gb238,2,none⟩=some (.slice A1_2 l1_2.length c1_2):=(blk_cell BK238.out 2).trans rfl;have hcz38_3:w35.cell? ⟨gb238,3,none⟩=some (.slice A1_3 l1_3.length c1_3):=(blk_cell BK238.out 3).trans rfl;have hfz38_0:=blk_frozen BK238.out 0;have hfz38_1:=blk_frozen BK238.out 1;have hfz38_2:=blk_frozen BK238.out 2;have hfz38_3:=blk_frozen BK238.out 3)|((with_reducible refine gate_callee (f:=23) rfl ?_);refine goesL_ (some 14) rfl rfl Tryd.func23 (by kernel_rfl) rfl #[.slice A0_1 l0_1.length c0_1,.slice A1_1 l1_1.length c1_1] rfl qz2 ?_;(with_reducible refine (laws_eqTrmCellS.calls k _ _ l0_1 _ _ l1_1 true _ ?side1 ?side2 ?side3 ?side4 A4.out).mono ?_);(case side1=>exact qz3);(case side2=>exact HC0_1.out);(case side3=>exact qz48);(case side4=>exact HC1_1.out);rintro e w39 ⟨rfl,hb⟩;refine ⟨_,rfl,?_⟩;have n0_:=Aside0.mk (blk_below (g:=gb237) (o:=.cells #[.int .i64 a0_0,.slice A0_1 l0_1.length c0_1,.slice A0_2 l0_2.length c0_2,.slice A0_3 l0_3.length c0_3] 29 (0,0)) qz20 hb);have n1_:=Aside0.mk (blk_below (g:=gb238) (o:=.cells #[.int .i64 a1_0,.slice A1_1 l1_1.length c1_1,.slice A1_2 l1_2.length c1_2,.slice A1_3 l1_3.length c1_3] 29 (0,0)) qz40 hb);have n2_:=Aside0.mk (below_step qz21 hb);clear BK237 BK238 HB;have BK237:=n0_;have BK238:=n1_;have HB:=n2_;clear n0_ n1_ n2_;(try clear hb);(try clear hb2);(try clear hk);(try clear hi);have hcz40_0:w39.cell? ⟨gb237,0,none⟩=some (.int .i64 a0_0):=(blk_cell BK237.out 0).trans rfl;have hcz40_1:w39.cell? ⟨gb237,1,none⟩=some (.slice A0_1 l0_1.length c0_1):=(blk_cell BK237.out 1).trans rfl;have hcz40_2:w39.cell? ⟨gb237,2,none⟩=some (.slice A0_2 l0_2.length c0_2):=(blk_cell BK237.out 2).trans rfl;have hcz40_3:w39.cell? ⟨gb237,3,none⟩=some (.slice A0_3 l0_3.length c0_3):=(blk_cell BK237.out 3).trans rfl;have hfz40_0:=blk_frozen BK237.out 0;have hfz40_1:=blk_frozen BK237.out 1;have hfz40_2:=blk_frozen BK237.out 2;have hfz40_3:=blk_frozen BK237.out 3;have hcz41_0:w39.cell? ⟨gb238,0,none⟩=some (.int .i64 a1_0):=(blk_cell BK238.out 0).trans rfl;have hcz41_1:w39.cell? ⟨gb238,1,none⟩=some (.slice A1_1 l1_1.length c1_1):=(blk_cell BK238.out 1).trans rfl;have hcz41_2:w39.cell? ⟨gb238,2,none⟩=some (.slice A1_2 l1_2.length c1_2):=(blk_cell BK238.out 2).trans rfl;have hcz41_3:w39.cell? ⟨gb238,3,none⟩=some (.slice A1_3 l1_3.length c1_3):=(blk_cell BK238.out 3).trans rfl;have hfz41_0:=blk_frozen BK238.out 0;have hfz41_1:=blk_frozen BK238.out 1;have hfz41_2:=blk_frozen BK238.out 2;have hfz41_3:=blk_frozen BK238.out 3)|((with_reducible refine gate_callee (f:=23) rfl ?_);refine goesL_ (some 20) rfl rfl Tryd.func23 (by kernel_rfl) rfl #[.slice A0_2 l0_2.length c0_2,.slice A1_2 l1_2.length c1_2] rfl qz2 ?_;(with_reducible refine (laws_eqTrmCellS.calls k _ _ l0_2 _ _ l1_2 false _ ?side1 ?side2 ?side3 ?side4 A6.out).mono ?_);(case side1=>exact qz5);(case side2=>exact HC0_2.out);(case side3=>exact qz62);(case side4=>exact HC1_2.out);rintro e w42 ⟨rfl,hb⟩;refine ⟨_,rfl,?_⟩;have n0_:=Aside0.mk (blk_below (g:=gb237) (o:=.cells #[.int .i64 a0_0,.slice A0_1 l0_1.length c0_1,.slice A0_2 l0_2.length c0_2,.slice A0_3 l0_3.length c0_3] 29 (0,0)) qz20 hb);have n1_:=Aside0.mk (blk_below (g:=gb238) (o:=.cells #[.int .i64 a1_0,.slice A1_1 l1_1.length c1_1,.slice A1_2 l1_2.length c1_2,.slice A1_3 l1_3.length c1_3] 29 (0,0)) qz40 hb);have n2_:=Aside0.mk (below_step qz21 hb);clear BK237 BK238 HB;have BK237:=n0_;have BK238:=n1_;have HB:=n2_;clear n0_ n1_ n2_;(try clear hb);(try clear hb2);(try clear hk);(try clear hi)))
    go_ret
    exact ⟨qz4,qz21⟩
  ·replace c5:=Bool.eq_false_iff.mpr c5
   subst c5
   have H1:(some false)=some r:=qz29
   clear H
   have H:=H1
   clear H1
   obtain rfl:=Option.some.inj H
   go_enter Tryd.func9,Tryd.ntmps9
   go_wp2_with (first|((with_reducible refine gate_dst (N:=2) rfl ?_);refine box_event ?hg (N:=2) ?hd (cs:=#[.int .i64 a0_0,.slice A0_1 l0_1.length c0_1,.slice A0_2 l0_2.length c0_2,.slice A0_3 l0_3.length c0_3]) (t:=29) ?hr ?_;(case hd=>rfl);(case hg=>rfl);(case hr=>first|(go_simp;done)|(go_simp;rfl));intro gb237 hg w43 hbox hb;have n0_:=Aside0.mk (below_step qz1 hb);have n1_:=Aside0.mk (hbox);have n2_:=Aside0.mk ((by rw [hg];exact (below_size qz1):w.heap.size≤gb237));have n3_:=Aside0.mk ((by rw [hg];exact (below_size qz1):w.heap.size≤gb237));clear HB;have HB:=n0_;have BK237:=n1_;have GW237:=n2_;have GE237:=n3_;clear n0_ n1_ n2_ n3_ hb hbox hg)|((with_reducible refine gate_dst (N:=3) rfl ?_);refine box_event ?hg (N:=3) ?hd (cs:=#[.int .i64 a1_0,.slice A1_1 l1_1.length c1_1,.slice A1_2 l1_2.length c1_2,.slice A1_3 l1_3.length c1_3]) (t:=29) ?hr ?_;(case hd=>rfl);(case hg=>rfl);(case hr=>first|(go_simp;done)|(go_simp;rfl));intro gb238 hg w44 hbox hb;have n0_:=Aside0.mk (blk_below (g:=gb237) (o:=.cells #[.int .i64 a0_0,.slice A0_1 l0_1.length c0_1,.slice A0_2 l0_2.length c0_2,.slice A0_3 l0_3.length c0_3] 29 (0,0)) qz20 hb);have n1_:=Aside0.mk (below_step qz22 hb);have n2_:=Aside0.mk (hbox);have n3_:=Aside0.mk ((by rw [hg];exact (below_size qz22):w.heap.size≤gb238));have n4_:=Aside0.mk ((by rw [hg];exact (below_size qz22):w.heap.size≤gb238));have n5_:=Aside0.mk ((by rw [hg];exact Nat.ne_of_lt (blk_lt (g:=gb237) (o:=.cells #[.int .i64 a0_0,.slice A0_1 l0_1.length c0_1,.slice A0_2 l0_2.length c0_2,.slice A0_3 l0_3.length c0_3] 29 (0,0)) qz20):gb237≠gb238));have n6_:=Aside0.mk ((by rw [hg];exact Nat.ne_of_gt (blk_lt (g:=gb237) (o:=.cells #[.int .i64 a0_0,.slice A0_1 l0_1.length c0_1,.slice A0_2 l0_2.length c0_2,.slice A0_3 l0_3.length c0_3] 29 (0,0)) qz20):gb238≠gb237));clear BK237 HB;have BK237:=n0_;have HB:=n1_;have BK238:=n2_;have GW238:=n3_;have GE238:=n4_;have NB237_238:=n5_;have NB238_237:=n6_;clear n0_ n1_ n2_ n3_ n4_ n5_ n6_ hb hbox hg;have hnb45:=NB237_238.out;have hnc45:=NB238_237.out;have hcz46_0:w44.cell? ⟨gb237,0,none⟩=some (.int .i64 a0_0):=(blk_cell BK237.out 0).trans rfl;have hcz46_1:w44.cell? ⟨gb237,1,none⟩=some (.slice A0_1 l0_1.length c0_1):=(blk_cell BK237.out 1).trans rfl;have hcz46_2:w44.cell? ⟨gb237,2,none⟩=some (.slice A0_2 l0_2.length c0_2):=(blk_cell BK237.out 2).trans rfl;have hcz46_3:w44.cell? ⟨gb237,3,none⟩=some (.slice A0_3 l0_3.length c0_3):=(blk_cell BK237.out 3).trans rfl;have hfz46_0:=blk_frozen BK237.out 0;have hfz46_1:=blk_frozen BK237.out 1;have hfz46_2:=blk_frozen BK237.out 2;have hfz46_3:=blk_frozen BK237.out 3;have hcz47_0:w44.cell? ⟨gb238,0,none⟩=some (.int .i64 a1_0):=(blk_cell BK238.out 0).trans rfl;have hcz47_1:w44.cell? ⟨gb238,1,none⟩=some (.slice A1_1 l1_1.length c1_1):=(blk_cell BK238.out 1).trans rfl;have hcz47_2:w44.cell? ⟨gb238,2,none⟩=some (.slice A1_2 l1_2.length c1_2):=(blk_cell BK238.out 2).trans rfl;have hcz47_3:w44.cell? ⟨gb238,3,none⟩=some (.slice A1_3 l1_3.length c1_3):=(blk_cell BK238.out 3).trans rfl;have hfz47_0:=blk_frozen BK238.out 0;have hfz47_1:=blk_frozen BK238.out 1;have hfz47_2:=blk_frozen BK238.out 2;have hfz47_3:=blk_frozen BK238.out 3)|((with_reducible refine gate_callee (f:=23) rfl ?_);refine goesL_ (some 14) rfl rfl Tryd.func23 (by kernel_rfl) rfl #[.slice A0_1 l0_1.length c0_1,.slice A1_1 l1_1.length c1_1] rfl qz2 ?_;(with_reducible refine (laws_eqTrmCellS.calls k _ _ l0_1 _ _ l1_1 false _ ?side1 ?side2 ?side3 ?side4 A4.out).mono ?_);(case side1=>exact qz3);(case side2=>exact HC0_1.out);(case side3=>exact qz48);(case side4=>exact HC1_1.out);rintro e w48 ⟨rfl,hb⟩;refine ⟨_,rfl,?_⟩;have n0_:=Aside0.mk (blk_below (g:=gb237) (o:=.cells #[.int .i64 a0_0,.slice A0_1 l0_1.length c0_1,.slice A0_2 l0_2.length c0_2,.slice A0_3 l0_3.length c0_3] 29 (0,0)) qz20 hb);have n1_:=Aside0.mk (blk_below (g:=gb238) (o:=.cells #[.int .i64 a1_0,.slice A1_1 l1_1.length c1_1,.slice A1_2 l1_2.length c1_2,.slice A1_3 l1_3.length c1_3] 29 (0,0)) qz40 hb);have n2_:=Aside0.mk (below_step qz21 hb);clear BK237 BK238 HB;have BK237:=n0_;have BK238:=n1_;have HB:=n2_;clear n0_ n1_ n2_;(try clear hb);(try clear hb2);(try clear hk);(try clear hi)))
   go_ret
   exact ⟨qz4,qz21⟩
 ·rw [if_neg c3] at H
  have c3b0:(a0_0 == a1_0)=false:=beq_eq_false_iff_ne.mpr c3
  have c3b1:(a0_0 != a1_0)=true:=bne_iff_ne.mpr c3
  obtain rfl:=Option.some.inj H
  go_enter Tryd.func9,Tryd.ntmps9
  go_wp2_with (first|((with_reducible refine gate_dst (N:=2) rfl ?_);refine box_event ?hg (N:=2) ?hd (cs:=#[.int .i64 a0_0,.slice A0_1 l0_1.length c0_1,.slice A0_2 l0_2.length c0_2,.slice A0_3 l0_3.length c0_3]) (t:=29) ?hr ?_;(case hd=>rfl);(case hg=>rfl);(case hr=>first|(go_simp;done)|(go_simp;rfl));intro gb237 hg w49 hbox hb;have n0_:=Aside0.mk (below_step qz1 hb);have n1_:=Aside0.mk (hbox);have n2_:=Aside0.mk ((by rw [hg];exact (below_size qz1):w.heap.size≤gb237));have n3_:=Aside0.mk ((by rw [hg];exact (below_size qz1):w.heap.size≤gb237));clear HB;have HB:=n0_;have BK237:=n1_;have GW237:=n2_;have GE237:=n3_;clear n0_ n1_ n2_ n3_ hb hbox hg)|((with_reducible refine gate_dst (N:=3) rfl ?_);refine box_event ?hg (N:=3) ?hd (cs:=#[.int .i64 a1_0,.slice A1_1 l1_1.length c1_1,.slice A1_2 l1_2.length c1_2,.slice A1_3 l1_3.length c1_3]) (t:=29) ?hr ?_;(case hd=>rfl);(case hg=>rfl);(case hr=>first|(go_simp;done)|(go_simp;rfl));intro gb238 hg w50 hbox hb;have n0_:=Aside0.mk (blk_below (g:=gb237) (o:=.cells #[.int .i64 a0_0,.slice A0_1 l0_1.length c0_1,.slice A0_2 l0_2.length c0_2,.slice A0_3 l0_3.length c0_3] 29 (0,0)) qz20 hb);have n1_:=Aside0.mk (below_step qz22 hb);have n2_:=Aside0.mk (hbox);have n3_:=Aside0.mk ((by rw [hg];exact (below_size qz22):w.heap.size≤gb238));have n4_:=Aside0.mk ((by rw [hg];exact (below_size qz22):w.heap.size≤gb238));have n5_:=Aside0.mk ((by rw [hg];exact Nat.ne_of_lt (blk_lt (g:=gb237) (o:=.cells #[.int .i64 a0_0,.slice A0_1 l0_1.length c0_1,.slice A0_2 l0_2.length c0_2,.slice A0_3 l0_3.length c0_3] 29 (0,0)) qz20):gb237≠gb238));have n6_:=Aside0.mk ((by rw [hg];exact Nat.ne_of_gt (blk_lt (g:=gb237) (o:=.cells #[.int .i64 a0_0,.slice A0_1 l0_1.length c0_1,.slice A0_2 l0_2.length c0_2,.slice A0_3 l0_3.length c0_3] 29 (0,0)) qz20):gb238≠gb237));clear BK237 HB;have BK237:=n0_;have HB:=n1_;have BK238:=n2_;have GW238:=n3_;have GE238:=n4_;have NB237_238:=n5_;have NB238_237:=n6_;clear n0_ n1_ n2_ n3_ n4_ n5_ n6_ hb hbox hg;have hnb51:=NB237_238.out;have hnc51:=NB238_237.out;have hcz52_0:w50.cell? ⟨gb237,0,none⟩=some (.int .i64 a0_0):=(blk_cell BK237.out 0).trans rfl;have hcz52_1:w50.cell? ⟨gb237,1,none⟩=some (.slice A0_1 l0_1.length c0_1):=(blk_cell BK237.out 1).trans rfl;have hcz52_2:w50.cell? ⟨gb237,2,none⟩=some (.slice A0_2 l0_2.length c0_2):=(blk_cell BK237.out 2).trans rfl;have hcz52_3:w50.cell? ⟨gb237,3,none⟩=some (.slice A0_3 l0_3.length c0_3):=(blk_cell BK237.out 3).trans rfl;have hfz52_0:=blk_frozen BK237.out 0;have hfz52_1:=blk_frozen BK237.out 1;have hfz52_2:=blk_frozen BK237.out 2;have hfz52_3:=blk_frozen BK237.out 3;have hcz53_0:w50.cell? ⟨gb238,0,none⟩=some (.int .i64 a1_0):=(blk_cell BK238.out 0).trans rfl;have hcz53_1:w50.cell? ⟨gb238,1,none⟩=some (.slice A1_1 l1_1.length c1_1):=(blk_cell BK238.out 1).trans rfl;have hcz53_2:w50.cell? ⟨gb238,2,none⟩=some (.slice A1_2 l1_2.length c1_2):=(blk_cell BK238.out 2).trans rfl;have hcz53_3:w50.cell? ⟨gb238,3,none⟩=some (.slice A1_3 l1_3.length c1_3):=(blk_cell BK238.out 3).trans rfl;have hfz53_0:=blk_frozen BK238.out 0;have hfz53_1:=blk_frozen BK238.out 1;have hfz53_2:=blk_frozen BK238.out 2;have hfz53_3:=blk_frozen BK238.out 3))
  go_ret
  exact ⟨qz4,qz21⟩

end Go.Proofs.YtlhniagacegbeaaDoor.P
