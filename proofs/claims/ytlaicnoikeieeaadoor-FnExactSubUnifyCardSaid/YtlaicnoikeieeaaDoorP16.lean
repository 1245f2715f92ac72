/- Contracts of functions of the program: each as a Lean function, and that its call does what that says; printed by cprint.py (this session) over print.py of the kit. Conditions: the hypotheses of each theorem. -/
import Derived.Test.YtlaicnoikeieeaaDoorVZ
import Derived.Test.YtlaicnoikeieeaaDoorP0
import Derived.Test.YtlaicnoikeieeaaDoorP15
namespace Go.Proofs.YtlaicnoikeieeaaDoor.P
open Go.RowKit Go.Proofs.YtlaicnoikeieeaaDoorW.PrintWords Go.Proofs.YtlaicnoikeieeaaDoorW.PrintLast Go.Proofs.YtlaicnoikeieeaaDoorW.PrintMore
attribute [local go_sem] max2_int min2_int max_two min_two max_three min_three max_four min_four   -- for this text's walks alone
set_option linter.unusedVariables false
set_option linter.unusedSimpArgs false

/-! ### laws_heldTrmCellS: function 40 -/
def laws_heldTrmCellS.l0:Nat→List (S46)→Int→Int→Option (Int)
 | 0,_,_,_=>none
 | k+1,x0,x1,x5=>if x5<(x0.length:Int) then (if 0≤x5 then (if ((rd_T46 x0 x5).f0)=x1 then (if ((rd_T46 x0 x5).f1)=(wrap64 (x1+1)) then ((laws_markText.f k (wrap64 ((wrap64 (x1+1))+1))).bind fun t330=>(if ((rd_T46 x0 x5).f2).toList=t330.toList then (laws_heldTrmCellS.l0 k x0 (wrap64 ((wrap64 ((wrap64 (x1+1))+1))+1)) (wrap64 (x5+1))) else (some (-1)))) else (some (-1))) else (some (-1))) else (none)) else (some x1)
def laws_heldTrmCellS.f (k:Nat) (l0:List (S46)) (a1:Int):Option (Int):=laws_heldTrmCellS.l0 k l0 a1 0
def laws_heldTrmCellS.T10:Bool × List (List Nat × List Nat):=(true,[([],[]),([],[]),([0,1],[0,1]),([2],[2]),([3],[3]),([],[]),([5],[5]),([4,6],[4,6])])
def laws_heldTrmCellS.B10:List Nat:=[0,0,3,7,15,0,32,127]
theorem laws_heldTrmCellS.tab10:rtab .any (opsOf Tryd.f40 10)=laws_heldTrmCellS.T10:=by kernel_rfl
theorem laws_heldTrmCellS.bits10:waitsOk laws_heldTrmCellS.T10.2 laws_heldTrmCellS.B10=true:=by kernel_rfl
set_option maxHeartbeats 8000000 in
set_option maxRecDepth 100000 in
theorem laws_heldTrmCellS.calls (k:Nat) (A0:Option Addr) (c0:Nat) (l0:List (S46)) (a1:Int) (r:Int) (w:World) (hr0:Kd.C k46 w A0 l0.length l0) (hc0:l0.length≤c0) (h:laws_heldTrmCellS.f k l0 a1=some r) :
  Calls Tryd.prog 40 #[.slice A0 l0.length c0,.int .i64 a1] w fun e w'=>e = .returned (.int .i64 r)∧Below w.heap.size w w':=by
 have HR0:=Aside0.mk hr0
 have HC0:=Aside0.mk hc0
 clear hr0 hc0
 have HB:=Aside0.mk (Below.refl w.heap.size w)
 have H:(laws_heldTrmCellS.l0 k l0 a1 0)=some r:=h
 clear h
 have H':=Aside0.mk H
 clear H
 go_enter Tryd.func40,Tryd.ntmps40
 go_wp2
 go_loopg [1,5] k (fun kq v1 v5 w'=>∃ (x1_1:Int) (x5_1:Int),v1 = .int .i64 x1_1∧v5 = .int .i64 x5_1∧Aside0 (laws_heldTrmCellS.l0 kq l0 x1_1 x5_1=some r)∧Aside0 (kq≤k)∧Aside0 (Below w.heap.size w w'))
 case atStart=>exact ⟨(a1),(0),qz6,qz6,H',⟨Nat.le_refl _⟩,⟨qz2⟩⟩
 case round=>
  clear H'
  try clear p2
  obtain ⟨x1_1,x5_1,rfl,rfl,HA,HK1,HB⟩:=hrel
  cases gk with
  | zero=>exact absurd HA.out (by simp [laws_heldTrmCellS.l0])
  | succ k1=>
   have H:=HA.out
   clear HA
   simp only [laws_heldTrmCellS.l0] at H
   by_cases c3:x5_1<(l0.length:Int)
   ·rw [if_pos c3] at H
    have c3b0:decide (x5_1<(l0.length:Int))=true:=decide_eq_true c3
    clear c3
    by_cases c4:0≤x5_1
    ·rw [if_pos c4] at H
     have c4b0:decide (0≤x5_1)=true:=decide_eq_true c4
     clear c4
     by_cases c5:((rd_T46 l0 x5_1).f0)=x1_1
     ·rw [if_pos c5] at H
      have c5b0:(((rd_T46 l0 x5_1).f0) == x1_1)=true:=beq_iff_eq.mpr c5
      have c5b1:(((rd_T46 l0 x5_1).f0) != x1_1)=false:=bne_eq_false_iff_eq.mpr c5
      clear c5
      by_cases c6:((rd_T46 l0 x5_1).f1)=(wrap64 (x1_1+1))
      ·rw [if_pos c6] at H
       have c6b0:(((rd_T46 l0 x5_1).f1) == (wrap64 (x1_1+1)))=true:=beq_iff_eq.mpr c6
       have c6b1:(((rd_T46 l0 x5_1).f1) != (wrap64 (x1_1+1)))=false:=bne_eq_false_iff_eq.mpr c6
       clear c6
       replace H:=Option.bind_eq_some_iff.mp H
       obtain ⟨t330,A70,H⟩:=H
       try dsimp only at H
       have A7:=Aside0.mk A70
       clear A70
       by_cases c8:((rd_T46 l0 x5_1).f2).toList=t330.toList
       ·rw [if_pos c8] at H
        have c8b0:(((rd_T46 l0 x5_1).f2).toList == t330.toList)=true:=beq_iff_eq.mpr c8
        have c8b1:(((rd_T46 l0 x5_1).f2).toList != t330.toList)=false:=bne_eq_false_iff_eq.mpr c8
        clear c8
        have H':=Aside0.mk H
        clear H
        have p327:0≤(x5_1:Int):=of_decide_eq_true qz3
        have q327:x5_1<(l0.length:Int):=of_decide_eq_true qz3
        obtain ⟨ad327,e327,hx327_0,hx327_1,hx327_2⟩:=at_T46 HR0.out x5_1 p327 q327
        cases e327
        replace hx327_0:=(HB.out.cell (World.block_lt_of_cell? w _ hx327_0)).trans hx327_0
        replace hx327_1:=(HB.out.cell (World.block_lt_of_cell? w _ hx327_1)).trans hx327_1
        replace hx327_2:=(HB.out.cell (World.block_lt_of_cell? w _ hx327_2)).trans hx327_2
        replace p327:=eq_true p327
        replace q327:=eq_true q327
        have p328:0≤(x5_1:Int):=of_decide_eq_true qz3
        have q328:x5_1<(l0.length:Int):=of_decide_eq_true qz3
        obtain ⟨ad328,e328,hx328_0,hx328_1,hx328_2⟩:=at_T46 HR0.out x5_1 p328 q328
        obtain rfl:ad327=ad328:=(by injection e328)
        replace hx328_0:=(HB.out.cell (World.block_lt_of_cell? w _ hx328_0)).trans hx328_0
        replace hx328_1:=(HB.out.cell (World.block_lt_of_cell? w _ hx328_1)).trans hx328_1
        replace hx328_2:=(HB.out.cell (World.block_lt_of_cell? w _ hx328_2)).trans hx328_2
        replace p328:=eq_true p328
        replace q328:=eq_true q328
        try go_wp2
        have n0_:=Aside0.mk (below_drew1 HB.out)
        clear HB
        have HB:=n0_
        clear n0_
        have p329:0≤(x5_1:Int):=of_decide_eq_true qz3
        have q329:x5_1<(l0.length:Int):=of_decide_eq_true qz3
        obtain ⟨ad329,e329,hx329_0,hx329_1,hx329_2⟩:=at_T46 HR0.out x5_1 p329 q329
        have hw329_2:=hx329_2
        have hw329_1:=hx329_1
        have hw329_0:=hx329_0
        obtain rfl:ad327=ad329:=(by injection e329)
        replace hx329_0:=(HB.out.cell (World.block_lt_of_cell? w _ hx329_0)).trans hx329_0
        replace hx329_1:=(HB.out.cell (World.block_lt_of_cell? w _ hx329_1)).trans hx329_1
        replace hx329_2:=(HB.out.cell (World.block_lt_of_cell? w _ hx329_2)).trans hx329_2
        replace p329:=eq_true p329
        replace q329:=eq_true q329
        refine start_ (n:=8) (S:=fun w'=>w'.cell? (ad327.add ((x5_1).toNat * 3))=some (.int .i64 ((rd_T46 l0 x5_1).f0))∧w'.cell? ⟨(ad327.add ((x5_1).toNat * 3)).block,(ad327.add ((x5_1).toNat * 3)).off+1,none⟩=some (.int .i64 ((rd_T46 l0 x5_1).f1))∧w'.cell? ⟨(ad327.add ((x5_1).toNat * 3)).block,(ad327.add ((x5_1).toNat * 3)).off+2,none⟩=some (.string ((rd_T46 l0 x5_1).f2))) (ds:=[]) #[false,false,false,false,false,false,false,false] (by kernel_rfl) rfl rfl ⟨((HB.out.cell (World.block_lt_of_cell? w _ hw329_0)).trans hw329_0),((HB.out.cell (World.block_lt_of_cell? w _ hw329_1)).trans hw329_1),((HB.out.cell (World.block_lt_of_cell? w _ hw329_2)).trans hw329_2)⟩ (fun hHeld=>?_);refine with_tabW laws_heldTrmCellS.tab10 laws_heldTrmCellS.bits10 (fun HT_ HW_=>?_)
        generalize wr.drew=w9 at HB hx329_0 hx329_1 hx329_2 hHeld ⊢
        refine pure_ (i:=0) (N:=some 30) (v:=?_) (a':=?_) #[true,false,false,false,false,false,false,false] rfl rfl (any_of HT_.out (by kernel_rfl)) (fun _ _ _ h=>h) (Or.inl ⟨by rfl,?_⟩) ?_ ?_
        rotate_left
        ·intro w'
         go_simp
         with_reducible rfl
        rotate_left
        ·simp only [Act.put,List.setIfInBounds_toArray,List.set_cons_zero,List.set_cons_succ,i64_w,i32_w]
         rfl
        refine pure_ (i:=1) (N:=some 31) (v:=?_) (a':=?_) #[true,true,false,false,false,false,false,false] rfl rfl (any_of HT_.out (by kernel_rfl)) (fun _ _ _ h=>h) (Or.inl ⟨by rfl,?_⟩) ?_ ?_
        rotate_left
        ·intro w'
         go_simp
         with_reducible rfl
        rotate_left
        ·simp only [Act.put,List.setIfInBounds_toArray,List.set_cons_zero,List.set_cons_succ,i64_w,i32_w]
         rfl
        refine pure_ (i:=2) (N:=some 32) (v:=?_) (a':=?_) #[true,true,true,false,false,false,false,false] rfl rfl (any_of HT_.out (by kernel_rfl)) (fun _ _ _ h=>h) (Or.inl ⟨by rfl,?_⟩) ?_ ?_
        rotate_left
        ·intro w'
         go_simp
         with_reducible rfl
        rotate_left
        ·simp only [Act.put,List.setIfInBounds_toArray,List.set_cons_zero,List.set_cons_succ,i64_w,i32_w]
         rfl
        refine pure_ (i:=3) (N:=some 33) (v:=?_) (a':=?_) #[true,true,true,true,false,false,false,false] rfl rfl (any_of HT_.out (by kernel_rfl)) (fun _ _ _ h=>h) (Or.inl ⟨by rfl,?_⟩) ?_ ?_
        rotate_left
        ·intro w'
         go_simp
         with_reducible rfl
        rotate_left
        ·simp only [Act.put,List.setIfInBounds_toArray,List.set_cons_zero,List.set_cons_succ,i64_w,i32_w]
         rfl
        refine pure_ (i:=5) (N:=some 35) (v:=?_) (a':=?_) #[true,true,true,true,false,true,false,false] rfl rfl (any_of HT_.out (by kernel_rfl)) (fun _ _ _ h=>h) (Or.inl ⟨by rfl,?_⟩) ?_ ?_
        rotate_left
        ·intro w'
         go_simp
         with_reducible rfl
        rotate_left
        ·simp only [Act.put,List.setIfInBounds_toArray,List.set_cons_zero,List.set_cons_succ,i64_w,i32_w]
         rfl
        refine take_ (i:=4) (N:=some 34) (v:=?_) (a':=?_) #[true,true,true,true,true,true,false,false] rfl rfl (take_ofW HT_.out HW_.out (by kernel_rfl)) (fun _ _ _ h=>h) (Or.inl ⟨by rfl,?_⟩) hHeld ?_ ?_
        rotate_left
        ·rintro w' ⟨s0,s1,s2⟩
         go_simp
         with_reducible rfl
        rotate_left
        ·simp only [Act.put,List.setIfInBounds_toArray,List.set_cons_zero,List.set_cons_succ,i64_w,i32_w]
         rfl
        refine one_ (i:=6) (N:=some 36) #[true,true,true,true,true,true,true,false] rfl rfl (one_of HT_.out (by kernel_rfl)) (by decide) (fun K hK=>?_)
        refine goes_ Tryd.func77 (by kernel_rfl) rfl #[.int .i64 (wrap64 ((wrap64 (x1_1+1))+1))] (by rfl) rfl rfl qz8 ?_
        with_reducible refine (laws_markText.calls k1 (wrap64 ((wrap64 (x1_1+1))+1)) t330 _ A7.out).mono ?_
        rintro e w10 ⟨rfl,hb⟩
        refine ⟨_,rfl,?_⟩
        have n0_:=Aside0.mk (below_step qz1 hb)
        clear HB
        have HB:=n0_
        clear n0_
        (try clear hb)
        (try clear hb2)
        (try clear hk)
        (try clear hi)
        refine hK.out _ _ ⟨((HB.out.cell (World.block_lt_of_cell? w _ hw329_0)).trans hw329_0),((HB.out.cell (World.block_lt_of_cell? w _ hw329_1)).trans hw329_1),((HB.out.cell (World.block_lt_of_cell? w _ hw329_2)).trans hw329_2)⟩ (fun hHeld=>?_)
        clear hK K
        refine norm_ (a':=?_) ?_ ?_
        rotate_left
        ·show Act.put _ (some 36) _=_
         simp only [Act.put,List.setIfInBounds_toArray,List.set_cons_zero,List.set_cons_succ,i64_w,i32_w]
         rfl
        refine pure_ (i:=7) (N:=some 37) (v:=?_) (a':=?_) #[true,true,true,true,true,true,true,true] rfl rfl (any_of HT_.out (by kernel_rfl)) (fun _ _ _ h=>h) (Or.inl ⟨by rfl,?_⟩) ?_ ?_
        rotate_left
        ·intro w'
         go_simp
         with_reducible rfl
        rotate_left
        ·simp only [Act.put,List.setIfInBounds_toArray,List.set_cons_zero,List.set_cons_succ,i64_w,i32_w]
         rfl
        refine done_ (done_of HT_.out (by kernel_rfl)) ?_
        try go_wp2
        go_roundg k1
        case measure=>have:=HK1.out;omega
        case rel=>exact ⟨(wrap64 ((wrap64 ((wrap64 (x1_1+1))+1))+1)),(wrap64 (x5_1+1)),qz6,qz6,H',⟨by have:=HK1.out;omega⟩,⟨qz2⟩⟩
       ·rw [if_neg c8] at H
        have c8b0:(((rd_T46 l0 x5_1).f2).toList == t330.toList)=false:=beq_eq_false_iff_ne.mpr c8
        have c8b1:(((rd_T46 l0 x5_1).f2).toList != t330.toList)=true:=bne_iff_ne.mpr c8
        obtain rfl:=Option.some.inj H
        have p327:0≤(x5_1:Int):=of_decide_eq_true qz3
        have q327:x5_1<(l0.length:Int):=of_decide_eq_true qz3
        obtain ⟨ad327,e327,hx327_0,hx327_1,hx327_2⟩:=at_T46 HR0.out x5_1 p327 q327
        cases e327
        replace hx327_0:=(HB.out.cell (World.block_lt_of_cell? w _ hx327_0)).trans hx327_0
        replace hx327_1:=(HB.out.cell (World.block_lt_of_cell? w _ hx327_1)).trans hx327_1
        replace hx327_2:=(HB.out.cell (World.block_lt_of_cell? w _ hx327_2)).trans hx327_2
        replace p327:=eq_true p327
        replace q327:=eq_true q327
        have p328:0≤(x5_1:Int):=of_decide_eq_true qz3
        have q328:x5_1<(l0.length:Int):=of_decide_eq_true qz3
        obtain ⟨ad328,e328,hx328_0,hx328_1,hx328_2⟩:=at_T46 HR0.out x5_1 p328 q328
        obtain rfl:ad327=ad328:=(by injection e328)
        replace hx328_0:=(HB.out.cell (World.block_lt_of_cell? w _ hx328_0)).trans hx328_0
        replace hx328_1:=(HB.out.cell (World.block_lt_of_cell? w _ hx328_1)).trans hx328_1
        replace hx328_2:=(HB.out.cell (World.block_lt_of_cell? w _ hx328_2)).trans hx328_2
        replace p328:=eq_true p328
        replace q328:=eq_true q328
        try go_wp2
        have n0_:=Aside0.mk (below_drew1 HB.out)
        clear HB
        have HB:=n0_
        clear n0_
        have p329:0≤(x5_1:Int):=of_decide_eq_true qz3
        have q329:x5_1<(l0.length:Int):=of_decide_eq_true qz3
        obtain ⟨ad329,e329,hx329_0,hx329_1,hx329_2⟩:=at_T46 HR0.out x5_1 p329 q329
        have hw329_2:=hx329_2
        have hw329_1:=hx329_1
        have hw329_0:=hx329_0
        obtain rfl:ad327=ad329:=(by injection e329)
        replace hx329_0:=(HB.out.cell (World.block_lt_of_cell? w _ hx329_0)).trans hx329_0
        replace hx329_1:=(HB.out.cell (World.block_lt_of_cell? w _ hx329_1)).trans hx329_1
        replace hx329_2:=(HB.out.cell (World.block_lt_of_cell? w _ hx329_2)).trans hx329_2
        replace p329:=eq_true p329
        replace q329:=eq_true q329
        refine start_ (n:=8) (S:=fun w'=>w'.cell? (ad327.add ((x5_1).toNat * 3))=some (.int .i64 ((rd_T46 l0 x5_1).f0))∧w'.cell? ⟨(ad327.add ((x5_1).toNat * 3)).block,(ad327.add ((x5_1).toNat * 3)).off+1,none⟩=some (.int .i64 ((rd_T46 l0 x5_1).f1))∧w'.cell? ⟨(ad327.add ((x5_1).toNat * 3)).block,(ad327.add ((x5_1).toNat * 3)).off+2,none⟩=some (.string ((rd_T46 l0 x5_1).f2))) (ds:=[]) #[false,false,false,false,false,false,false,false] (by kernel_rfl) rfl rfl ⟨((HB.out.cell (World.block_lt_of_cell? w _ hw329_0)).trans hw329_0),((HB.out.cell (World.block_lt_of_cell? w _ hw329_1)).trans hw329_1),((HB.out.cell (World.block_lt_of_cell? w _ hw329_2)).trans hw329_2)⟩ (fun hHeld=>?_);refine with_tabW laws_heldTrmCellS.tab10 laws_heldTrmCellS.bits10 (fun HT_ HW_=>?_)
        generalize wr.drew=w11 at HB hx329_0 hx329_1 hx329_2 hHeld ⊢
        refine pure_ (i:=0) (N:=some 30) (v:=?_) (a':=?_) #[true,false,false,false,false,false,false,false] rfl rfl (any_of HT_.out (by kernel_rfl)) (fun _ _ _ h=>h) (Or.inl ⟨by rfl,?_⟩) ?_ ?_
        rotate_left
        ·intro w'
         go_simp
         with_reducible rfl
        rotate_left
        ·simp only [Act.put,List.setIfInBounds_toArray,List.set_cons_zero,List.set_cons_succ,i64_w,i32_w]
         rfl
        refine pure_ (i:=1) (N:=some 31) (v:=?_) (a':=?_) #[true,true,false,false,false,false,false,false] rfl rfl (any_of HT_.out (by kernel_rfl)) (fun _ _ _ h=>h) (Or.inl ⟨by rfl,?_⟩) ?_ ?_
        rotate_left
        ·intro w'
         go_simp
         with_reducible rfl
        rotate_left
        ·simp only [Act.put,List.setIfInBounds_toArray,List.set_cons_zero,List.set_cons_succ,i64_w,i32_w]
         rfl
        refine pure_ (i:=2) (N:=some 32) (v:=?_) (a':=?_) #[true,true,true,false,false,false,false,false] rfl rfl (any_of HT_.out (by kernel_rfl)) (fun _ _ _ h=>h) (Or.inl ⟨by rfl,?_⟩) ?_ ?_
        rotate_left
        ·intro w'
         go_simp
         with_reducible rfl
        rotate_left
        ·simp only [Act.put,List.setIfInBounds_toArray,List.set_cons_zero,List.set_cons_succ,i64_w,i32_w]
         rfl
        refine pure_ (i:=3) (N:=some 33) (v:=?_) (a':=?_) #[true,true,true,true,false,false,false,false] rfl rfl (any_of HT_.out (by kernel_rfl)) (fun _ _ _ h=>h) (Or.inl ⟨by rfl,?_⟩) ?_ ?_
        rotate_left
        ·intro w'
         go_simp
         with_reducible rfl
        rotate_left
        ·simp only [Act.put,List.setIfInBounds_toArray,List.set_cons_zero,List.set_cons_succ,i64_w,i32_w]
         rfl
        refine pure_ (i:=5) (N:=some 35) (v:=?_) (a':=?_) #[true,true,true,true,false,true,false,false] rfl rfl (any_of HT_.out (by kernel_rfl)) (fun _ _ _ h=>h) (Or.inl ⟨by rfl,?_⟩) ?_ ?_
        rotate_left
        ·intro w'
         go_simp
         with_reducible rfl
        rotate_left
        ·simp only [Act.put,List.setIfInBounds_toArray,List.set_cons_zero,List.set_cons_succ,i64_w,i32_w]
         rfl
        refine take_ (i:=4) (N:=some 34) (v:=?_) (a':=?_) #[true,true,true,true,true,true,false,false] rfl rfl (take_ofW HT_.out HW_.out (by kernel_rfl)) (fun _ _ _ h=>h) (Or.inl ⟨by rfl,?_⟩) hHeld ?_ ?_
        rotate_left
        ·rintro w' ⟨s0,s1,s2⟩
         go_simp
         with_reducible rfl
        rotate_left
        ·simp only [Act.put,List.setIfInBounds_toArray,List.set_cons_zero,List.set_cons_succ,i64_w,i32_w]
         rfl
        refine one_ (i:=6) (N:=some 36) #[true,true,true,true,true,true,true,false] rfl rfl (one_of HT_.out (by kernel_rfl)) (by decide) (fun K hK=>?_)
        refine goes_ Tryd.func77 (by kernel_rfl) rfl #[.int .i64 (wrap64 ((wrap64 (x1_1+1))+1))] (by rfl) rfl rfl qz8 ?_
        with_reducible refine (laws_markText.calls k1 (wrap64 ((wrap64 (x1_1+1))+1)) t330 _ A7.out).mono ?_
        rintro e w12 ⟨rfl,hb⟩
        refine ⟨_,rfl,?_⟩
        have n0_:=Aside0.mk (below_step qz1 hb)
        clear HB
        have HB:=n0_
        clear n0_
        (try clear hb)
        (try clear hb2)
        (try clear hk)
        (try clear hi)
        refine hK.out _ _ ⟨((HB.out.cell (World.block_lt_of_cell? w _ hw329_0)).trans hw329_0),((HB.out.cell (World.block_lt_of_cell? w _ hw329_1)).trans hw329_1),((HB.out.cell (World.block_lt_of_cell? w _ hw329_2)).trans hw329_2)⟩ (fun hHeld=>?_)
        clear hK K
        refine norm_ (a':=?_) ?_ ?_
        rotate_left
        ·show Act.put _ (some 36) _=_
         simp only [Act.put,List.setIfInBounds_toArray,List.set_cons_zero,List.set_cons_succ,i64_w,i32_w]
         rfl
        refine pure_ (i:=7) (N:=some 37) (v:=?_) (a':=?_) #[true,true,true,true,true,true,true,true] rfl rfl (any_of HT_.out (by kernel_rfl)) (fun _ _ _ h=>h) (Or.inl ⟨by rfl,?_⟩) ?_ ?_
        rotate_left
        ·intro w'
         go_simp
         with_reducible rfl
        rotate_left
        ·simp only [Act.put,List.setIfInBounds_toArray,List.set_cons_zero,List.set_cons_succ,i64_w,i32_w]
         rfl
        refine done_ (done_of HT_.out (by kernel_rfl)) ?_
        try go_wp2
        go_ret
        exact ⟨qz4,qz2⟩
      ·rw [if_neg c6] at H
       have c6b0:(((rd_T46 l0 x5_1).f1) == (wrap64 (x1_1+1)))=false:=beq_eq_false_iff_ne.mpr c6
       have c6b1:(((rd_T46 l0 x5_1).f1) != (wrap64 (x1_1+1)))=true:=bne_iff_ne.mpr c6
       obtain rfl:=Option.some.inj H
       have p327:0≤(x5_1:Int):=of_decide_eq_true qz3
       have q327:x5_1<(l0.length:Int):=of_decide_eq_true qz3
       obtain ⟨ad327,e327,hx327_0,hx327_1,hx327_2⟩:=at_T46 HR0.out x5_1 p327 q327
       cases e327
       replace hx327_0:=(HB.out.cell (World.block_lt_of_cell? w _ hx327_0)).trans hx327_0
       replace hx327_1:=(HB.out.cell (World.block_lt_of_cell? w _ hx327_1)).trans hx327_1
       replace hx327_2:=(HB.out.cell (World.block_lt_of_cell? w _ hx327_2)).trans hx327_2
       replace p327:=eq_true p327
       replace q327:=eq_true q327
       have p328:0≤(x5_1:Int):=of_decide_eq_true qz3
       have q328:x5_1<(l0.length:Int):=of_decide_eq_true qz3
       obtain ⟨ad328,e328,hx328_0,hx328_1,hx328_2⟩:=at_T46 HR0.out x5_1 p328 q328
       obtain rfl:ad327=ad328:=(by injection e328)
       replace hx328_0:=(HB.out.cell (World.block_lt_of_cell? w _ hx328_0)).trans hx328_0
       replace hx328_1:=(HB.out.cell (World.block_lt_of_cell? w _ hx328_1)).trans hx328_1
       replace hx328_2:=(HB.out.cell (World.block_lt_of_cell? w _ hx328_2)).trans hx328_2
       replace p328:=eq_true p328
       replace q328:=eq_true q328
       go_wp2
       go_ret
       exact ⟨qz4,qz2⟩
     ·rw [if_neg c5] at H
      have c5b0:(((rd_T46 l0 x5_1).f0) == x1_1)=false:=beq_eq_false_iff_ne.mpr c5
      have c5b1:(((rd_T46 l0 x5_1).f0) != x1_1)=true:=bne_iff_ne.mpr c5
      obtain rfl:=Option.some.inj H
      have p327:0≤(x5_1:Int):=of_decide_eq_true qz3
      have q327:x5_1<(l0.length:Int):=of_decide_eq_true qz3
      obtain ⟨ad327,e327,hx327_0,hx327_1,hx327_2⟩:=at_T46 HR0.out x5_1 p327 q327
      cases e327
      replace hx327_0:=(HB.out.cell (World.block_lt_of_cell? w _ hx327_0)).trans hx327_0
      replace hx327_1:=(HB.out.cell (World.block_lt_of_cell? w _ hx327_1)).trans hx327_1
      replace hx327_2:=(HB.out.cell (World.block_lt_of_cell? w _ hx327_2)).trans hx327_2
      replace p327:=eq_true p327
      replace q327:=eq_true q327
      go_wp2
      go_ret
      exact ⟨qz4,qz2⟩
    ·rw [if_neg c4] at H
     exact absurd H (by simp)
   ·rw [if_neg c3] at H
    have c3b0:decide (x5_1<(l0.length:Int))=false:=decide_eq_false c3
    clear c3
    obtain rfl:=Option.some.inj H
    go_wp2
    go_ret
    exact ⟨qz4,qz2⟩

/-! ### laws_heldSubBindS: function 49 -/
def laws_heldSubBindS.l0:Nat→List (S30)→Int→Int→Option (Int)
 | 0,_,_,_=>none
 | k+1,x0,x1,x5=>if x5<(x0.length:Int) then (if 0≤x5 then (if ((rd_T30 x0 x5).f0)=x1 then ((laws_heldTrmCellS.f k ((rd_T30 x0 x5).f1) (wrap64 (x1+1))).bind fun t333=>(if t333<0 then (some (-1)) else (laws_heldSubBindS.l0 k x0 t333 (wrap64 (x5+1))))) else (some (-1))) else (none)) else (some x1)
def laws_heldSubBindS.f (k:Nat) (l0:List (S30)) (a1:Int):Option (Int):=laws_heldSubBindS.l0 k l0 a1 0
set_option maxHeartbeats 8000000 in
set_option maxRecDepth 100000 in
theorem laws_heldSubBindS.calls (k:Nat) (A0:Option Addr) (c0:Nat) (l0:List (S30)) (a1:Int) (r:Int) (w:World) (hr0:Kd.C k30 w A0 l0.length l0) (hc0:l0.length≤c0) (h:laws_heldSubBindS.f k l0 a1=some r) :
  Calls Tryd.prog 49 #[.slice A0 l0.length c0,.int .i64 a1] w fun e w'=>e = .returned (.int .i64 r)∧Below w.heap.size w w':=by
 have HR0:=Aside0.mk hr0
 have HC0:=Aside0.mk hc0
 clear hr0 hc0
 have HB:=Aside0.mk (Below.refl w.heap.size w)
 have H:(laws_heldSubBindS.l0 k l0 a1 0)=some r:=h
 clear h
 have H':=Aside0.mk H
 clear H
 go_enter Tryd.func49,Tryd.ntmps49
 go_wp2
 go_loopg [1,5] k (fun kq v1 v5 w'=>∃ (x1_1:Int) (x5_1:Int),v1 = .int .i64 x1_1∧v5 = .int .i64 x5_1∧Aside0 (laws_heldSubBindS.l0 kq l0 x1_1 x5_1=some r)∧Aside0 (kq≤k)∧Aside0 (Below w.heap.size w w'))
 case atStart=>exact ⟨(a1),(0),qz6,qz6,H',⟨Nat.le_refl _⟩,⟨qz2⟩⟩
 case round=>
  clear H'
  try clear p2
  obtain ⟨x1_1,x5_1,rfl,rfl,HA,HK1,HB⟩:=hrel
  cases gk with
  | zero=>exact absurd HA.out (by simp [laws_heldSubBindS.l0])
  | succ k1=>
   have H:=HA.out
   clear HA
   simp only [laws_heldSubBindS.l0] at H
   by_cases c3:x5_1<(l0.length:Int)
   ·rw [if_pos c3] at H
    have c3b0:decide (x5_1<(l0.length:Int))=true:=decide_eq_true c3
    clear c3
    by_cases c4:0≤x5_1
    ·rw [if_pos c4] at H
     have c4b0:decide (0≤x5_1)=true:=decide_eq_true c4
     clear c4
     by_cases c5:((rd_T30 l0 x5_1).f0)=x1_1
     ·rw [if_pos c5] at H
      have c5b0:(((rd_T30 l0 x5_1).f0) == x1_1)=true:=beq_iff_eq.mpr c5
      have c5b1:(((rd_T30 l0 x5_1).f0) != x1_1)=false:=bne_eq_false_iff_eq.mpr c5
      clear c5
      replace H:=Option.bind_eq_some_iff.mp H
      obtain ⟨t333,A60,H⟩:=H
      try dsimp only at H
      have A6:=Aside0.mk A60
      clear A60
      by_cases c7:t333<0
      ·rw [if_pos c7] at H
       have c7b0:decide (t333<0)=true:=decide_eq_true c7
       clear c7
       obtain rfl:=Option.some.inj H
       have p331:0≤(x5_1:Int):=of_decide_eq_true qz3
       have q331:x5_1<(l0.length:Int):=of_decide_eq_true qz3
       obtain ⟨ad331,A331_1,c331_1,e331,hx331_0,hx331_1,hl331_1,hi331_1⟩:=at_T30 HR0.out x5_1 p331 q331
       cases e331
       replace hx331_0:=(HB.out.cell (World.block_lt_of_cell? w _ hx331_0)).trans hx331_0
       replace hx331_1:=(HB.out.cell (World.block_lt_of_cell? w _ hx331_1)).trans hx331_1
       have HR331_1:=Aside0.mk hi331_1
       have HC331_1:=Aside0.mk hl331_1
       clear hi331_1 hl331_1
       replace p331:=eq_true p331
       replace q331:=eq_true q331
       have p332:0≤(x5_1:Int):=of_decide_eq_true qz3
       have q332:x5_1<(l0.length:Int):=of_decide_eq_true qz3
       obtain ⟨ad332,A332_1,c332_1,e332,hx332_0,hx332_1,hl332_1,hi332_1⟩:=at_T30 HR0.out x5_1 p332 q332
       obtain rfl:ad331=ad332:=(by injection e332)
       replace hx332_0:=(HB.out.cell (World.block_lt_of_cell? w _ hx332_0)).trans hx332_0
       replace hx332_1:=(HB.out.cell (World.block_lt_of_cell? w _ hx332_1)).trans hx332_1
       have HR332_1:=Aside0.mk hi332_1
       have HC332_1:=Aside0.mk hl332_1
       clear hi332_1 hl332_1
       replace p332:=eq_true p332
       replace q332:=eq_true q332
       have ea_:=Option.some.inj (hx331_1.symm.trans hx332_1)
       injection ea_ with ea_ en_ ec_
       subst ea_
       subst ec_
       clear en_
       go_wp2_with (first|(go_at_call 40;(with_reducible refine (laws_heldTrmCellS.calls k1 _ _ ((rd_T30 l0 x5_1).f1) (wrap64 (x1_1+1)) t333 _ ?side1 ?side2 A6.out).mono ?_);(case side1=>exact qz56);(case side2=>exact HC332_1.out);rintro e w8 ⟨rfl,hb⟩;have n0_:=Aside0.mk (below_step qz1 hb);clear HB;have HB:=n0_;clear n0_;(try clear hb);(try clear hb2);(try clear hk);(try clear hi)))
       go_ret
       exact ⟨qz4,qz2⟩
      ·rw [if_neg c7] at H
       have c7b0:decide (t333<0)=false:=decide_eq_false c7
       clear c7
       have H':=Aside0.mk H
       clear H
       have p331:0≤(x5_1:Int):=of_decide_eq_true qz3
       have q331:x5_1<(l0.length:Int):=of_decide_eq_true qz3
       obtain ⟨ad331,A331_1,c331_1,e331,hx331_0,hx331_1,hl331_1,hi331_1⟩:=at_T30 HR0.out x5_1 p331 q331
       cases e331
       replace hx331_0:=(HB.out.cell (World.block_lt_of_cell? w _ hx331_0)).trans hx331_0
       replace hx331_1:=(HB.out.cell (World.block_lt_of_cell? w _ hx331_1)).trans hx331_1
       have HR331_1:=Aside0.mk hi331_1
       have HC331_1:=Aside0.mk hl331_1
       clear hi331_1 hl331_1
       replace p331:=eq_true p331
       replace q331:=eq_true q331
       have p332:0≤(x5_1:Int):=of_decide_eq_true qz3
       have q332:x5_1<(l0.length:Int):=of_decide_eq_true qz3
       obtain ⟨ad332,A332_1,c332_1,e332,hx332_0,hx332_1,hl332_1,hi332_1⟩:=at_T30 HR0.out x5_1 p332 q332
       obtain rfl:ad331=ad332:=(by injection e332)
       replace hx332_0:=(HB.out.cell (World.block_lt_of_cell? w _ hx332_0)).trans hx332_0
       replace hx332_1:=(HB.out.cell (World.block_lt_of_cell? w _ hx332_1)).trans hx332_1
       have HR332_1:=Aside0.mk hi332_1
       have HC332_1:=Aside0.mk hl332_1
       clear hi332_1 hl332_1
       replace p332:=eq_true p332
       replace q332:=eq_true q332
       have ea_:=Option.some.inj (hx331_1.symm.trans hx332_1)
       injection ea_ with ea_ en_ ec_
       subst ea_
       subst ec_
       clear en_
       go_wp2_with (first|(go_at_call 40;(with_reducible refine (laws_heldTrmCellS.calls k1 _ _ ((rd_T30 l0 x5_1).f1) (wrap64 (x1_1+1)) t333 _ ?side1 ?side2 A6.out).mono ?_);(case side1=>exact qz56);(case side2=>exact HC332_1.out);rintro e w9 ⟨rfl,hb⟩;have n0_:=Aside0.mk (below_step qz1 hb);clear HB;have HB:=n0_;clear n0_;(try clear hb);(try clear hb2);(try clear hk);(try clear hi)))
       go_roundg k1
       case measure=>have:=HK1.out;omega
       case rel=>exact ⟨(t333),(wrap64 (x5_1+1)),qz6,qz6,H',⟨by have:=HK1.out;omega⟩,⟨qz2⟩⟩
     ·rw [if_neg c5] at H
      have c5b0:(((rd_T30 l0 x5_1).f0) == x1_1)=false:=beq_eq_false_iff_ne.mpr c5
      have c5b1:(((rd_T30 l0 x5_1).f0) != x1_1)=true:=bne_iff_ne.mpr c5
      obtain rfl:=Option.some.inj H
      have p331:0≤(x5_1:Int):=of_decide_eq_true qz3
      have q331:x5_1<(l0.length:Int):=of_decide_eq_true qz3
      obtain ⟨ad331,A331_1,c331_1,e331,hx331_0,hx331_1,hl331_1,hi331_1⟩:=at_T30 HR0.out x5_1 p331 q331
      cases e331
      replace hx331_0:=(HB.out.cell (World.block_lt_of_cell? w _ hx331_0)).trans hx331_0
      replace hx331_1:=(HB.out.cell (World.block_lt_of_cell? w _ hx331_1)).trans hx331_1
      have HR331_1:=Aside0.mk hi331_1
      have HC331_1:=Aside0.mk hl331_1
      clear hi331_1 hl331_1
      replace p331:=eq_true p331
      replace q331:=eq_true q331
      go_wp2
      go_ret
      exact ⟨qz4,qz2⟩
    ·rw [if_neg c4] at H
     exact absurd H (by simp)
   ·rw [if_neg c3] at H
    have c3b0:decide (x5_1<(l0.length:Int))=false:=decide_eq_false c3
    clear c3
    obtain rfl:=Option.some.inj H
    go_wp2
    go_ret
    exact ⟨qz4,qz2⟩

end Go.Proofs.YtlaicnoikeieeaaDoor.P
