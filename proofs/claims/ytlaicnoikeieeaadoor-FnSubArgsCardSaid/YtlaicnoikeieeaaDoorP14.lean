/- Contracts of functions of the program: each as a Lean function, and that its call does what that says; printed by cprint.py (this session) over print.py of the kit. Conditions: the hypotheses of each theorem. -/
import Derived.Test.YtlaicnoikeieeaaDoorVZ
import Derived.Test.YtlaicnoikeieeaaDoorP0
import Derived.Test.YtlaicnoikeieeaaDoorP4
import Derived.Test.YtlaicnoikeieeaaDoorP5
import Derived.Test.YtlaicnoikeieeaaDoorP6
import Derived.Test.YtlaicnoikeieeaaDoorP7
import Derived.Test.YtlaicnoikeieeaaDoorP9
import Derived.Test.YtlaicnoikeieeaaDoorP12
import Derived.Test.YtlaicnoikeieeaaDoorP13
namespace Go.Proofs.YtlaicnoikeieeaaDoor.P
open Go.RowKit Go.Proofs.YtlaicnoikeieeaaDoorW.PrintWords Go.Proofs.YtlaicnoikeieeaaDoorW.PrintLast Go.Proofs.YtlaicnoikeieeaaDoorW.PrintMore
attribute [local go_sem] max2_int min2_int max_two min_two max_three min_three max_four min_four   -- for this text's walks alone
set_option linter.unusedVariables false
set_option linter.unusedSimpArgs false

/-! ### spec_l2Meet: function 86 -/
/-! ### spec_l2Copy: function 87 -/
def spec_l2Copy.l0:Nat→List (S30)→List (S30)→Int→Option ((List (S30)))
 | 0,_,_,_=>none
 | k+1,x0,x3,x4=>if x4<(x0.length:Int) then (if 0≤x4 then ((some (([]:List (S46)):List (S46))).bind fun y284=>(if y284.length+((rd_T30 x0 x4).f1).length<4398046511104 then (if x3.length<4398046511104 then (spec_l2Copy.l0 k x0 (x3++[(⟨(rd_T30 x0 x4).f0,(y284++((rd_T30 x0 x4).f1))⟩:S30)]) (wrap64 (x4+1))) else (none)) else (none))) else (none)) else (some x3)
def spec_l2Copy.f (k:Nat) (l0:List (S30)):Option ((List (S30))):=spec_l2Copy.l0 k l0 (([]:List (S30))) 0
def spec_l2Copy.T5:Bool × List (List Nat × List Nat):=(true,[([],[]),([],[]),([],[]),([1,2],[1,2]),([3],[3]),([4],[4]),([],[]),([],[]),([],[]),([7,8],[7,8]),([9],[9]),([10],[10]),([6,11],[6,11]),([5,12],[5,12]),([13],[13]),([0,14,12],[0,14]),([15,15,0,1,2,3,4,5,6,7,8,9,10,11,12,13,14,15],[0,15])])
def spec_l2Copy.B5:List Nat:=[0,0,0,6,14,30,0,0,0,384,896,1920,4032,8190,16382,32767,65535]
theorem spec_l2Copy.tab5:rtab .any (opsOf Tryd.f87 5)=spec_l2Copy.T5:=by kernel_rfl
theorem spec_l2Copy.bits5:waitsOk spec_l2Copy.T5.2 spec_l2Copy.B5=true:=by kernel_rfl
set_option maxHeartbeats 8000000 in
set_option maxRecDepth 100000 in
theorem spec_l2Copy.calls (k:Nat) (A0:Option Addr) (c0:Nat) (l0:List (S30)) (r:List (S30)) (w:World) (hr0:Kd.C k30 w A0 l0.length l0) (hc0:l0.length≤c0) (h:spec_l2Copy.f k l0=some r) :
  Calls Tryd.prog 87 #[.slice A0 l0.length c0] w fun e w'=>∃ v0_:Value,e = .returned (v0_)∧Kd.S k30 30 w' w.heap.size (fun _=>True) v0_ r∧Below w.heap.size w w':=by
 have hu30:=Tryd.underlying30
 have HR0:=Aside0.mk hr0
 have HC0:=Aside0.mk hc0
 clear hr0 hc0
 have HB:=Aside0.mk (Below.refl w.heap.size w)
 have H:(spec_l2Copy.l0 k l0 (([]:List (S30))) 0)=some r:=h
 clear h
 obtain ⟨y280,hy280⟩:∃ y_:List (S30),y_=(([]:List (S30))):=⟨_,rfl⟩
 replace H:(spec_l2Copy.l0 k l0 y280 0)=some r:=by first|(rw [hy280];exact H)|exact H
 have Ny280:=Aside0.mk hy280
 clear hy280
 have H':=Aside0.mk H
 clear H
 go_enter Tryd.func87,Tryd.ntmps87
 go_wp2_with (first|((with_reducible refine gate_dst (N:=5) rfl ?_);refine Kd.S_lit k30 _ 30 ?hg (N:=5) ?hd (xs:=([]:List (S30))) (inner:=[]) (ok:=fun _=>True) (okp:=fun _=>True) ?hr ?hp (fun _ hk=>hk) trivial (Below.refl _ _) (Nat.le_refl _) (by simp) ?_;(case hd=>rfl);(case hg=>rfl);(case hr=>first|(go_simp;done)|(go_simp;rfl));(case hp=>exact (Reps.none _ _));intro v281 w2 ho3 hb hg_ hnew_;clear hg_ hnew_;(first|rw [← Ny280.out] at ho3|(simp only [Int.reduceToNat] at ho3;rw [← Ny280.out] at ho3));have n0_:=Aside0.mk (Kd.S_lower ho3 (below_size qz1));have n1_:=Aside0.mk (below_step qz1 hb);clear HB;have HO282:=n0_;have HB:=n1_;clear n0_ n1_ hb ho3))
 go_loopg [3,4] k (fun kq v3 v4 w'=>∃ (x3_1:List (S30)) (x4_1:Int),v4 = .int .i64 x4_1∧Aside0 (spec_l2Copy.l0 kq l0 x3_1 x4_1=some r)∧Aside0 (kq≤k)∧Aside0 (Kd.S k30 30 w' w.heap.size (fun _=>True) v3 x3_1)∧Aside0 (Below w.heap.size w w'))
 case atStart=>exact ⟨(y280),(0),qz12,H',⟨Nat.le_refl _⟩,⟨by (with_reducible repeat (first|apply Kd.S_alloc|apply Kd.S_drewN|apply Kd.S_drew));exact HO282.out⟩,⟨qz5⟩⟩
 case round=>
  clear H'
  try clear p2
  obtain ⟨x3_1,x4_1,rfl,HA,HK1,HO_3,HB⟩:=hrel
  cases gk with
  | zero=>exact absurd HA.out (by simp [spec_l2Copy.l0])
  | succ k1=>
   have H:=HA.out
   clear HA
   simp only [spec_l2Copy.l0] at H
   by_cases c4:x4_1<(l0.length:Int)
   ·rw [if_pos c4] at H
    have c4b0:decide (x4_1<(l0.length:Int))=true:=decide_eq_true c4
    clear c4
    by_cases c5:0≤x4_1
    ·rw [if_pos c5] at H
     have c5b0:decide (0≤x4_1)=true:=decide_eq_true c5
     clear c5
     obtain ⟨y284,hy284⟩:∃ y_:List (S46),y_=(([]:List (S46))):=⟨_,rfl⟩
     replace H:(if y284.length+((rd_T30 l0 x4_1).f1).length<4398046511104 then (if x3_1.length<4398046511104 then (spec_l2Copy.l0 k1 l0 (x3_1++[(⟨(rd_T30 l0 x4_1).f0,(y284++((rd_T30 l0 x4_1).f1))⟩:S30)]) (wrap64 (x4_1+1))) else (none)) else (none))=some r:=by first|(rw [hy284];exact H)|exact H
     have Ny284:=Aside0.mk hy284
     clear hy284
     by_cases c6:y284.length+((rd_T30 l0 x4_1).f1).length<4398046511104
     ·rw [if_pos c6] at H
      have LMc6:=Aside0.mk c6
      clear c6
      obtain ⟨y288,hy288⟩:∃ y_:List (S46),y_=(y284++((rd_T30 l0 x4_1).f1)):=⟨_,rfl⟩
      replace H:(if x3_1.length<4398046511104 then (spec_l2Copy.l0 k1 l0 (x3_1++[(⟨(rd_T30 l0 x4_1).f0,y288⟩:S30)]) (wrap64 (x4_1+1))) else (none))=some r:=by first|(rw [hy288];exact H)|exact H
      have Ny288:=Aside0.mk hy288
      clear hy288
      by_cases c7:x3_1.length<4398046511104
      ·rw [if_pos c7] at H
       have LMc7:=Aside0.mk c7
       clear c7
       obtain ⟨y291,hy291⟩:∃ y_:List (S30),y_=(x3_1++[(⟨(rd_T30 l0 x4_1).f0,y288⟩:S30)]):=⟨_,rfl⟩
       replace H:(spec_l2Copy.l0 k1 l0 y291 (wrap64 (x4_1+1)))=some r:=by first|(rw [hy291];exact H)|exact H
       have Ny291:=Aside0.mk hy291
       clear hy291
       have H':=Aside0.mk H
       clear H
       try go_wp2
       have n0_:=Aside0.mk (Kd.S_drew HO_3.out)
       have n1_:=Aside0.mk (below_drew1 HB.out)
       clear HO_3 HB
       have HO_3:=n0_
       have HB:=n1_
       clear n0_ n1_
       have p283:0≤(x4_1:Int):=of_decide_eq_true qz6
       have q283:x4_1<(l0.length:Int):=of_decide_eq_true qz6
       obtain ⟨ad283,A283_1,c283_1,e283,hx283_0,hx283_1,hl283_1,hi283_1⟩:=at_T30 HR0.out x4_1 p283 q283
       have hw283_1:=hx283_1
       have hw283_0:=hx283_0
       cases e283
       replace hx283_0:=(HB.out.cell (World.block_lt_of_cell? w _ hx283_0)).trans hx283_0
       replace hx283_1:=(HB.out.cell (World.block_lt_of_cell? w _ hx283_1)).trans hx283_1
       have HR283_1:=Aside0.mk hi283_1
       have HC283_1:=Aside0.mk hl283_1
       clear hi283_1 hl283_1
       replace p283:=eq_true p283
       replace q283:=eq_true q283
       have p287:0≤(x4_1:Int):=of_decide_eq_true qz6
       have q287:x4_1<(l0.length:Int):=of_decide_eq_true qz6
       obtain ⟨ad287,A287_1,c287_1,e287,hx287_0,hx287_1,hl287_1,hi287_1⟩:=at_T30 HR0.out x4_1 p287 q287
       have hw287_1:=hx287_1
       have hw287_0:=hx287_0
       obtain rfl:ad283=ad287:=(by injection e287)
       replace hx287_0:=(HB.out.cell (World.block_lt_of_cell? w _ hx287_0)).trans hx287_0
       replace hx287_1:=(HB.out.cell (World.block_lt_of_cell? w _ hx287_1)).trans hx287_1
       have HR287_1:=Aside0.mk hi287_1
       have HC287_1:=Aside0.mk hl287_1
       clear hi287_1 hl287_1
       replace p287:=eq_true p287
       replace q287:=eq_true q287
       have ea_:=Option.some.inj (hx283_1.symm.trans hx287_1)
       injection ea_ with ea_ en_ ec_
       subst ea_
       subst ec_
       clear en_
       refine start_ (n:=17) (S:=fun w'=>w'.cell? (ad283.add ((x4_1).toNat * 2))=some (.int .i64 ((rd_T30 l0 x4_1).f0))∧w'.cell? ⟨(ad283.add ((x4_1).toNat * 2)).block,(ad283.add ((x4_1).toNat * 2)).off+1,none⟩=some (.slice A283_1 ((rd_T30 l0 x4_1).f1).length c283_1)∧w'.cell? (ad283.add ((x4_1).toNat * 2))=some (.int .i64 ((rd_T30 l0 x4_1).f0))∧w'.cell? ⟨(ad283.add ((x4_1).toNat * 2)).block,(ad283.add ((x4_1).toNat * 2)).off+1,none⟩=some (.slice A283_1 ((rd_T30 l0 x4_1).f1).length c283_1)) (ds:=[]) #[false,false,false,false,false,false,false,false,false,false,false,false,false,false,false,false,false] (by kernel_rfl) rfl rfl ⟨((HB.out.cell (World.block_lt_of_cell? w _ hw283_0)).trans hw283_0),((HB.out.cell (World.block_lt_of_cell? w _ hw283_1)).trans hw283_1),((HB.out.cell (World.block_lt_of_cell? w _ hw287_0)).trans hw287_0),((HB.out.cell (World.block_lt_of_cell? w _ hw287_1)).trans hw287_1)⟩ (fun hHeld=>?_);refine with_tabW spec_l2Copy.tab5 spec_l2Copy.bits5 (fun HT_ HW_=>?_)
       generalize wr.drew=w8 at HO_3 HB HR283_1 HR287_1 hx283_0 hx283_1 hx287_0 hx287_1 hHeld ⊢
       refine pure_ (i:=0) (N:=some 12) (v:=?_) (a':=?_) #[true,false,false,false,false,false,false,false,false,false,false,false,false,false,false,false,false] rfl rfl (any_of HT_.out (by kernel_rfl)) (fun _ _ _ h=>h) (Or.inl ⟨by rfl,?_⟩) ?_ ?_
       rotate_left
       ·intro w'
        go_simp
        with_reducible rfl
       rotate_left
       ·simp only [Act.put,List.setIfInBounds_toArray,List.set_cons_zero,List.set_cons_succ,i64_w,i32_w]
        rfl
       refine pure_ (i:=1) (N:=some 13) (v:=?_) (a':=?_) #[true,true,false,false,false,false,false,false,false,false,false,false,false,false,false,false,false] rfl rfl (any_of HT_.out (by kernel_rfl)) (fun _ _ _ h=>h) (Or.inl ⟨by rfl,?_⟩) ?_ ?_
       rotate_left
       ·intro w'
        go_simp
        with_reducible rfl
       rotate_left
       ·simp only [Act.put,List.setIfInBounds_toArray,List.set_cons_zero,List.set_cons_succ,i64_w,i32_w]
        rfl
       refine pure_ (i:=2) (N:=some 14) (v:=?_) (a':=?_) #[true,true,true,false,false,false,false,false,false,false,false,false,false,false,false,false,false] rfl rfl (any_of HT_.out (by kernel_rfl)) (fun _ _ _ h=>h) (Or.inl ⟨by rfl,?_⟩) ?_ ?_
       rotate_left
       ·intro w'
        go_simp
        with_reducible rfl
       rotate_left
       ·simp only [Act.put,List.setIfInBounds_toArray,List.set_cons_zero,List.set_cons_succ,i64_w,i32_w]
        rfl
       refine pure_ (i:=3) (N:=some 15) (v:=?_) (a':=?_) #[true,true,true,true,false,false,false,false,false,false,false,false,false,false,false,false,false] rfl rfl (any_of HT_.out (by kernel_rfl)) (fun _ _ _ h=>h) (Or.inl ⟨by rfl,?_⟩) ?_ ?_
       rotate_left
       ·intro w'
        go_simp
        with_reducible rfl
       rotate_left
       ·simp only [Act.put,List.setIfInBounds_toArray,List.set_cons_zero,List.set_cons_succ,i64_w,i32_w]
        rfl
       refine pure_ (i:=4) (N:=some 16) (v:=?_) (a':=?_) #[true,true,true,true,true,false,false,false,false,false,false,false,false,false,false,false,false] rfl rfl (any_of HT_.out (by kernel_rfl)) (fun _ _ _ h=>h) (Or.inl ⟨by rfl,?_⟩) ?_ ?_
       rotate_left
       ·intro w'
        go_simp
        with_reducible rfl
       rotate_left
       ·simp only [Act.put,List.setIfInBounds_toArray,List.set_cons_zero,List.set_cons_succ,i64_w,i32_w]
        rfl
       refine pure_ (i:=7) (N:=some 19) (v:=?_) (a':=?_) #[true,true,true,true,true,false,false,true,false,false,false,false,false,false,false,false,false] rfl rfl (any_of HT_.out (by kernel_rfl)) (fun _ _ _ h=>h) (Or.inl ⟨by rfl,?_⟩) ?_ ?_
       rotate_left
       ·intro w'
        go_simp
        with_reducible rfl
       rotate_left
       ·simp only [Act.put,List.setIfInBounds_toArray,List.set_cons_zero,List.set_cons_succ,i64_w,i32_w]
        rfl
       refine pure_ (i:=8) (N:=some 20) (v:=?_) (a':=?_) #[true,true,true,true,true,false,false,true,true,false,false,false,false,false,false,false,false] rfl rfl (any_of HT_.out (by kernel_rfl)) (fun _ _ _ h=>h) (Or.inl ⟨by rfl,?_⟩) ?_ ?_
       rotate_left
       ·intro w'
        go_simp
        with_reducible rfl
       rotate_left
       ·simp only [Act.put,List.setIfInBounds_toArray,List.set_cons_zero,List.set_cons_succ,i64_w,i32_w]
        rfl
       refine pure_ (i:=9) (N:=some 21) (v:=?_) (a':=?_) #[true,true,true,true,true,false,false,true,true,true,false,false,false,false,false,false,false] rfl rfl (any_of HT_.out (by kernel_rfl)) (fun _ _ _ h=>h) (Or.inl ⟨by rfl,?_⟩) ?_ ?_
       rotate_left
       ·intro w'
        go_simp
        with_reducible rfl
       rotate_left
       ·simp only [Act.put,List.setIfInBounds_toArray,List.set_cons_zero,List.set_cons_succ,i64_w,i32_w]
        rfl
       refine pure_ (i:=10) (N:=some 22) (v:=?_) (a':=?_) #[true,true,true,true,true,false,false,true,true,true,true,false,false,false,false,false,false] rfl rfl (any_of HT_.out (by kernel_rfl)) (fun _ _ _ h=>h) (Or.inl ⟨by rfl,?_⟩) ?_ ?_
       rotate_left
       ·intro w'
        go_simp
        with_reducible rfl
       rotate_left
       ·simp only [Act.put,List.setIfInBounds_toArray,List.set_cons_zero,List.set_cons_succ,i64_w,i32_w]
        rfl
       refine take_ (i:=5) (N:=some 17) (v:=?_) (a':=?_) #[true,true,true,true,true,true,false,true,true,true,true,false,false,false,false,false,false] rfl rfl (take_ofW HT_.out HW_.out (by kernel_rfl)) (fun _ _ _ h=>h) (Or.inl ⟨by rfl,?_⟩) hHeld ?_ ?_
       rotate_left
       ·rintro w' ⟨s0,s1,s2,s3⟩
        go_simp
        with_reducible rfl
       rotate_left
       ·simp only [Act.put,List.setIfInBounds_toArray,List.set_cons_zero,List.set_cons_succ,i64_w,i32_w]
        rfl
       refine take_ (i:=11) (N:=some 23) (v:=?_) (a':=?_) #[true,true,true,true,true,true,false,true,true,true,true,true,false,false,false,false,false] rfl rfl (take_ofW HT_.out HW_.out (by kernel_rfl)) (fun _ _ _ h=>h) (Or.inl ⟨by rfl,?_⟩) hHeld ?_ ?_
       rotate_left
       ·rintro w' ⟨s0,s1,s2,s3⟩
        go_simp
        with_reducible rfl
       rotate_left
       ·simp only [Act.put,List.setIfInBounds_toArray,List.set_cons_zero,List.set_cons_succ,i64_w,i32_w]
        rfl
       refine one_ (i:=6) (N:=some 18) #[true,true,true,true,true,true,true,true,true,true,true,true,false,false,false,false,false] rfl rfl (one_of HT_.out (by kernel_rfl)) (by decide) (fun K hK=>?_)
       refine Kd.R_lit_step k46 _ 46 ?hg (N:=18) ?hd (xs:=([]:List (S46))) (inner:=[]) (ok:=fun _=>True) (okp:=fun _=>True) ?hr ?hp (fun _ hk=>hk) trivial (Below.refl _ _) (Nat.le_refl _) (by simp) ?_;(case hd=>rfl);(case hg=>rfl);(case hr=>first|(go_simp;done)|(go_simp;rfl));(case hp=>exact (Reps.none _ _))
       intro v285 w9 ho10 hb hg_ hnew_
       clear hg_ hnew_
       (first|rw [← Ny284.out] at ho10|(simp only [Int.reduceToNat] at ho10;rw [← Ny284.out] at ho10))
       have n0_:=Aside0.mk (Kd.S_elder' qz27 (Kd.R_base ho10) hb)
       have n1_:=Aside0.mk (Kd.R_lower ho10 (below_size qz1))
       have n2_:=Aside0.mk (below_step qz1 hb)
       clear HO_3 HB
       have HO_3:=n0_
       have HO286:=n1_
       have HB:=n2_
       clear n0_ n1_ n2_ hb ho10
       refine hK.out _ _ ⟨((HB.out.cell (World.block_lt_of_cell? w _ hw283_0)).trans hw283_0),((HB.out.cell (World.block_lt_of_cell? w _ hw283_1)).trans hw283_1),((HB.out.cell (World.block_lt_of_cell? w _ hw287_0)).trans hw287_0),((HB.out.cell (World.block_lt_of_cell? w _ hw287_1)).trans hw287_1)⟩ (fun hHeld=>?_)
       clear hK K
       refine norm_ (a':=?_) ?_ ?_
       rotate_left
       ·show Act.put _ (some 18) _=_
        simp only [Act.put,List.setIfInBounds_toArray,List.set_cons_zero,List.set_cons_succ,i64_w,i32_w]
        rfl
       refine one_ (i:=12) (N:=some 24) #[true,true,true,true,true,true,true,true,true,true,true,true,true,false,false,false,false] rfl rfl (one_of HT_.out (by kernel_rfl)) (by decide) (fun K hK=>?_)
       refine Kd.R_append_rows_step k46 (w0:=w) w.heap.size (by rfl) (.tmp 18) (.tmp 23) 26 46 (.agg #[(.int .i64 0),(.int .i64 0),(.string ⟨#[]⟩)]) 32 rfl Tryd.underlying26 info46 rfl (by decide) (by omega) v285 y284 ((rd_T30 l0 x4_1).f1) _ _ _ (fun _=>True) (fun _=>False) rfl rfl ?aO ?aR (fun _ _ h=>h) (fun _ h=>h.elim) ?aF ?aB ?aS ?aL ?_
       (case aR=>repeat (first|exact (Kd.C_below HR287_1.out HB.out)|(with_reducible refine Kd.C_alloc ?_ _)|(with_reducible refine Kd.C_drewN ?_ _)|(with_reducible refine Kd.C_drew ?_)))
       (case aB=>exact qz1)
       (case aF=>exact (fun _ _=>trivial))
       (case aO=>(with_reducible repeat (first|apply Kd.R_alloc|apply Kd.R_drewN|apply Kd.R_drew));exact HO286.out)
       (case aS=>exact (below_size qz1))
       (case aL=>have:=LMc6.out;omega)
       intro v289 w11 ho hb hg hat
       rw [← Ny288.out] at ho
       have n0_:=Aside0.mk (Kd.S_after (ok:=(fun _=>True)) qz27 hg hat)
       have n1_:=Aside0.mk (hb)
       have n2_:=Aside0.mk (ho)
       clear HO_3 HB HO286
       have HO_3:=n0_
       have HB:=n1_
       have HO290:=n2_
       clear n0_ n1_ n2_ ho hb hg hat
       obtain ⟨Ao12,co12,eo12⟩:=Kd.R_slice HO290.out
       (first|subst eo12|(injection eo12 with f1_ f2_ f3_;have f4_:=f1_.symm;have f5_:=f3_.symm;clear f1_ f2_ f3_;subst f4_;subst f5_))
       refine hK.out _ _ ⟨((HB.out.cell (World.block_lt_of_cell? w _ hw283_0)).trans hw283_0),((HB.out.cell (World.block_lt_of_cell? w _ hw283_1)).trans hw283_1),((HB.out.cell (World.block_lt_of_cell? w _ hw287_0)).trans hw287_0),((HB.out.cell (World.block_lt_of_cell? w _ hw287_1)).trans hw287_1)⟩ (fun hHeld=>?_)
       clear hK K
       refine norm_ (a':=?_) ?_ ?_
       rotate_left
       ·show Act.put _ (some 24) _=_
        simp only [Act.put,List.setIfInBounds_toArray,List.set_cons_zero,List.set_cons_succ,i64_w,i32_w]
        rfl
       refine pure_ (i:=13) (N:=some 25) (v:=?_) (a':=?_) #[true,true,true,true,true,true,true,true,true,true,true,true,true,true,false,false,false] rfl rfl (any_of HT_.out (by kernel_rfl)) (fun _ _ _ h=>h) (Or.inl ⟨by rfl,?_⟩) ?_ ?_
       rotate_left
       ·intro w'
        go_simp
        with_reducible rfl
       rotate_left
       ·simp only [Act.put,List.setIfInBounds_toArray,List.set_cons_zero,List.set_cons_succ,i64_w,i32_w]
        rfl
       refine one_ (i:=14) (N:=some 26) #[true,true,true,true,true,true,true,true,true,true,true,true,true,true,true,false,false] rfl rfl (one_of HT_.out (by kernel_rfl)) (by decide) (fun K hK=>?_)
       refine value_ (w1:=?_) (v:=?_) (by rfl) rfl ?_ ?_
       rotate_left 2
       ·go_simp
        constructor
        ·rfl
        ·rfl
       refine hK.out _ _ ⟨(World.cell?_alloc_lt _ _ _ (World.block_lt_of_cell? _ _ (((HB.out.cell (World.block_lt_of_cell? w _ hw283_0)).trans hw283_0)))).trans (((HB.out.cell (World.block_lt_of_cell? w _ hw283_0)).trans hw283_0)),(World.cell?_alloc_lt _ _ _ (World.block_lt_of_cell? _ _ (((HB.out.cell (World.block_lt_of_cell? w _ hw283_1)).trans hw283_1)))).trans (((HB.out.cell (World.block_lt_of_cell? w _ hw283_1)).trans hw283_1)),(World.cell?_alloc_lt _ _ _ (World.block_lt_of_cell? _ _ (((HB.out.cell (World.block_lt_of_cell? w _ hw287_0)).trans hw287_0)))).trans (((HB.out.cell (World.block_lt_of_cell? w _ hw287_0)).trans hw287_0)),(World.cell?_alloc_lt _ _ _ (World.block_lt_of_cell? _ _ (((HB.out.cell (World.block_lt_of_cell? w _ hw287_1)).trans hw287_1)))).trans (((HB.out.cell (World.block_lt_of_cell? w _ hw287_1)).trans hw287_1))⟩ (fun hHeld=>?_)
       clear hK K
       refine norm_ (a':=?_) ?_ ?_
       rotate_left
       ·show Act.put _ (some 26) _=_
        simp only [Act.put,List.setIfInBounds_toArray,List.set_cons_zero,List.set_cons_succ,i64_w,i32_w]
        rfl
       refine one_ (i:=15) (N:=some 27) #[true,true,true,true,true,true,true,true,true,true,true,true,true,true,true,true,false] rfl rfl (one_of HT_.out (by kernel_rfl)) (by decide) (fun K hK=>?_)
       refine Kd.S_append_step k30 (w0:=w) w.heap.size (by rfl) (.tmp 12) (.tmp 26) 23 30 (.agg #[(.int .i64 0),(.slice none 0 0)]) 32 rfl Tryd.underlying23 info30 rfl (by decide) (by omega) u3 x3_1 (⟨(rd_T30 l0 x4_1).f0,y288⟩:S30) [.int .i64 ((rd_T30 l0 x4_1).f0),.slice Ao12 y288.length co12] (fun _=>True) (fun k_=>some k_=(.slice Ao12 y288.length co12:Value).ownBlock) rfl rfl ?aP (fun k_ hk_=>((Kd.R_mono (ok':=fun k_=>((fun _=>True)) k_∧some k_≠(u3:Value).ownBlock) (Kd.R_apart' (HO290.out) (Kd.S_typed HO_3.out) (by decide)) (fun k_ hk=>⟨trivial,hk.2⟩))).1 k_ hk_.symm) ?aF ?aO ?aB ?aS ?aL ?_
       (case aP=>exact k30_mkM _ _ _ (⟨(rd_T30 l0 x4_1).f0,y288⟩:S30) (Kd.R_mono (Kd.R_tight rfl (Kd.R_mono (ok':=fun k_=>((fun _=>True)) k_∧some k_≠(u3:Value).ownBlock) (Kd.R_apart' (HO290.out) (Kd.S_typed HO_3.out) (by decide)) (fun k_ hk=>⟨trivial,hk.2⟩))) (fun _ h_=>h_)))
       (case aB=>exact qz1)
       (case aF=>exact (fun _ _=>trivial))
       (case aO=>(with_reducible repeat (first|apply Kd.S_alloc|apply Kd.S_drewN|apply Kd.S_drew));exact Kd.S_mono HO_3.out (fun k_ hk=>⟨trivial,fun e_=>hk.2 e_⟩))
       (case aS=>exact (below_size qz1))
       (case aL=>have:=LMc7.out;omega)
       intro v292 w13 ho hb hg hat
       rw [← Ny291.out] at ho
       have n0_:=Aside0.mk (hb)
       have n1_:=Aside0.mk (ho)
       clear HB HO_3 HO290
       have HB:=n0_
       have HO293:=n1_
       clear n0_ n1_ ho hb hg hat
       refine hK.out _ _ ⟨((HB.out.cell (World.block_lt_of_cell? w _ hw283_0)).trans hw283_0),((HB.out.cell (World.block_lt_of_cell? w _ hw283_1)).trans hw283_1),((HB.out.cell (World.block_lt_of_cell? w _ hw287_0)).trans hw287_0),((HB.out.cell (World.block_lt_of_cell? w _ hw287_1)).trans hw287_1)⟩ (fun hHeld=>?_)
       clear hK K
       refine norm_ (a':=?_) ?_ ?_
       rotate_left
       ·show Act.put _ (some 27) _=_
        simp only [Act.put,List.setIfInBounds_toArray,List.set_cons_zero,List.set_cons_succ,i64_w,i32_w]
        rfl
       refine pure_ (i:=16) (N:=some 3) (v:=?_) (a':=?_) #[true,true,true,true,true,true,true,true,true,true,true,true,true,true,true,true,true] rfl rfl (any_of HT_.out (by kernel_rfl)) (fun _ _ _ h=>h) (Or.inl ⟨by rfl,?_⟩) ?_ ?_
       rotate_left
       ·intro w'
        go_simp
        with_reducible rfl
       rotate_left
       ·simp only [Act.put,List.setIfInBounds_toArray,List.set_cons_zero,List.set_cons_succ,i64_w,i32_w]
        rfl
       refine done_ (done_of HT_.out (by kernel_rfl)) ?_
       try go_wp2
       go_roundg k1
       case measure=>have:=HK1.out;omega
       case rel=>exact ⟨(y291),(wrap64 (x4_1+1)),qz12,H',⟨by have:=HK1.out;omega⟩,⟨by (with_reducible repeat (first|apply Kd.S_alloc|apply Kd.S_drewN|apply Kd.S_drew));exact HO293.out⟩,⟨qz5⟩⟩
      ·rw [if_neg c7] at H
       exact absurd H (by simp)
     ·rw [if_neg c6] at H
      exact absurd H (by simp)
    ·rw [if_neg c5] at H
     exact absurd H (by simp)
   ·rw [if_neg c4] at H
    have c4b0:decide (x4_1<(l0.length:Int))=false:=decide_eq_false c4
    clear c4
    obtain rfl:=Option.some.inj H
    go_wp2
    go_ret
    exact ⟨_,qz8,qz27,qz5⟩

/-! ### spec_SubUnify: function 47 -/
/-! ### impl_TrmCanon: function 45 -/
def impl_TrmCanon.l0:Nat→List Int→List (S46)→Int→Int→Option ((List (S46)))
 | 0,_,_,_,_=>none
 | k+1,x3,x4,x11,x12=>if x12<x11 then (if 0≤x12 then (if x12<(x4.length:Int) then (if ((rd_T46 x4 x12).f0)=1 then ((slices_Index_int.f k x3 ((rd_T46 x4 x12).f1)).bind fun t455=>(impl_TrmCanon.l0 k x3 (x4.set (x12:Int).toNat (⟨(rd_T46 x4 x12).f0,t455,(rd_T46 x4 x12).f2⟩:S46)) x11 (wrap64 (x12+1)))) else (impl_TrmCanon.l0 k x3 x4 x11 (wrap64 (x12+1)))) else (none)) else (none)) else (some x4)
def impl_TrmCanon.f (k:Nat) (l0:List (S46)):Option ((List (S46))):=(impl_TrmFree.f k l0).bind fun t447=>((slices_Clone_TrmCell.f l0).bind fun t450=>(impl_TrmCanon.l0 k t447 t450 (t450.length:Int) 0))
set_option maxHeartbeats 8000000 in
set_option maxRecDepth 100000 in
theorem impl_TrmCanon.calls (k:Nat) (A0:Option Addr) (c0:Nat) (l0:List (S46)) (r:List (S46)) (w:World) (hr0:Kd.C k46 w A0 l0.length l0) (hc0:l0.length≤c0) (h:impl_TrmCanon.f k l0=some r) :
  Calls Tryd.prog 45 #[.slice A0 l0.length c0] w fun e w'=>∃ v0_:Value,e = .returned (v0_)∧Kd.R k46 46 w' w.heap.size (fun _=>True) v0_ r∧Below w.heap.size w w':=by
 have HR0:=Aside0.mk hr0
 have HC0:=Aside0.mk hc0
 clear hr0 hc0
 have HB:=Aside0.mk (Below.refl w.heap.size w)
 have H:((impl_TrmFree.f k l0).bind fun t447=>((slices_Clone_TrmCell.f l0).bind fun t450=>(impl_TrmCanon.l0 k t447 t450 (t450.length:Int) 0)))=some r:=h
 clear h
 replace H:=Option.bind_eq_some_iff.mp H
 obtain ⟨t447,A20,H⟩:=H
 try dsimp only at H
 have A2:=Aside0.mk A20
 clear A20
 replace H:=Option.bind_eq_some_iff.mp H
 obtain ⟨t450,A30,H⟩:=H
 try dsimp only at H
 have A3:=Aside0.mk A30
 clear A30
 have H':=Aside0.mk H
 clear H
 go_enter Tryd.func45,Tryd.ntmps45
 go_wp2_with (first|(go_at_call 32;(with_reducible refine (impl_TrmFree.calls k _ _ l0 t447 _ ?side1 ?side2 A2.out).mono ?_);(case side1=>exact qz40);(case side2=>exact HC0.out);rintro e w4 ⟨v448,rfl,ho0,hb⟩;have n0_:=Aside0.mk (Kd.R_lower ho0 (below_size qz1));have n1_:=Aside0.mk (below_step qz1 hb);clear HB;have HO449:=n0_;have HB:=n1_;clear n0_ n1_;(try clear hb);(try clear hb2);(try clear hk);(try clear hi);(try clear ho0))|(go_at_call 55;(with_reducible refine (slices_Clone_TrmCell.calls _ _ l0 t450 _ ?side1 ?side2 A3.out).mono ?_);(case side1=>exact qz38);(case side2=>exact HC0.out);rintro e w5 ⟨v451,rfl,ho0,hb⟩;have n0_:=Aside0.mk (Kd.R_below (by (with_reducible repeat (first|apply Kd.R_alloc|apply Kd.R_drewN|apply Kd.R_drew));exact HO449.out) hb);have n1_:=Aside0.mk (Kd.R_lower ho0 (below_size qz1));have n2_:=Aside0.mk (below_step qz1 hb);clear HO449 HB;have HO449:=n0_;have HO452:=n1_;have HB:=n2_;clear n0_ n1_ n2_;(try clear hb);(try clear hb2);(try clear hk);(try clear hi);(try clear ho0);obtain ⟨Ao6,co6,eo6⟩:=Kd.R_slice HO452.out;subst eo6))
 go_loopg [12] k (fun kq v12 w'=>∃ (x4_1:List (S46)) (x12_1:Int),v12 = .int .i64 x12_1∧Aside0 (impl_TrmCanon.l0 kq t447 x4_1 (t450.length:Int) x12_1=some r)∧Aside0 (kq≤k)∧Aside0 (Kd.R (Kd.int .i64) 3 w' w.heap.size (fun _=>True) v448 t447)∧Aside0 (Kd.R k46 46 w' w.heap.size (fun _=>True) (.slice Ao6 t450.length co6) x4_1)∧Aside0 (Below w.heap.size w w'))
 case atStart=>exact ⟨(t450),(0),qz12,H',⟨Nat.le_refl _⟩,⟨by (with_reducible repeat (first|apply Kd.R_alloc|apply Kd.R_drewN|apply Kd.R_drew));exact HO449.out⟩,⟨by (with_reducible repeat (first|apply Kd.R_alloc|apply Kd.R_drewN|apply Kd.R_drew));exact HO452.out⟩,⟨qz5⟩⟩
 case round=>
  clear H'
  try clear p2
  try clear c3
  try clear c4
  try clear c5
  obtain ⟨x4_1,x12_1,rfl,HA,HK1,HO_3,HO_4,HB⟩:=hrel
  have hl4_1:=(Kd.R_reads' HO_4.out).1
  rw [hl4_1] at HO_4
  (try simp only [hl4_1])
  (try simp only [hl4_1] at HO_3)
  cases gk with
  | zero=>exact absurd HA.out (by simp [impl_TrmCanon.l0])
  | succ k1=>
   have H:=HA.out
   clear HA
   simp only [impl_TrmCanon.l0] at H
   by_cases c7:x12_1<(t450.length:Int)
   ·rw [if_pos c7] at H
    have c7b0:decide (x12_1<(t450.length:Int))=true:=decide_eq_true c7
    have c7b0x0:=c7b0
    try simp only [hl4_1] at c7b0x0
    clear c7
    by_cases c8:0≤x12_1
    ·rw [if_pos c8] at H
     have c8b0:decide (0≤x12_1)=true:=decide_eq_true c8
     clear c8
     by_cases c9:x12_1<(x4_1.length:Int)
     ·rw [if_pos c9] at H
      have c9b0:decide (x12_1<(x4_1.length:Int))=true:=decide_eq_true c9
      have c9b0x0:=c9b0
      try simp only [hl4_1] at c9b0x0
      clear c9
      by_cases c10:((rd_T46 x4_1 x12_1).f0)=1
      ·rw [if_pos c10] at H
       have c10b0:(((rd_T46 x4_1 x12_1).f0) == 1)=true:=beq_iff_eq.mpr c10
       have c10b1:(((rd_T46 x4_1 x12_1).f0) != 1)=false:=bne_eq_false_iff_eq.mpr c10
       clear c10
       replace H:=Option.bind_eq_some_iff.mp H
       obtain ⟨t455,A110,H⟩:=H
       try dsimp only at H
       have A11:=Aside0.mk A110
       clear A110
       obtain ⟨y456,hy456⟩:∃ y_:List (S46),y_=(x4_1.set (x12_1:Int).toNat (⟨(rd_T46 x4_1 x12_1).f0,t455,(rd_T46 x4_1 x12_1).f2⟩:S46)):=⟨_,rfl⟩
       replace H:(impl_TrmCanon.l0 k1 t447 y456 (t450.length:Int) (wrap64 (x12_1+1)))=some r:=by first|(rw [hy456];exact H)|exact H
       have Ny456:=Aside0.mk hy456
       clear hy456
       have H':=Aside0.mk H
       clear H
       have p453:0≤(x12_1:Int):=of_decide_eq_true qz6
       have q453:x12_1<(x4_1.length:Int):=of_decide_eq_true qz6
       obtain ⟨ad453,e453,hx453_0,hx453_1,hx453_2⟩:=at_T46 (Kd.R_reads' HO_4.out).2.2 x12_1 p453 q453
       cases e453
       replace p453:=eq_true p453
       replace q453:=eq_true q453
       have p454:0≤(x12_1:Int):=of_decide_eq_true qz6
       have q454:x12_1<(x4_1.length:Int):=of_decide_eq_true qz6
       obtain ⟨ad454,e454,hx454_0,hx454_1,hx454_2⟩:=at_T46 (Kd.R_reads' HO_4.out).2.2 x12_1 p454 q454
       obtain rfl:ad453=ad454:=(by injection e454)
       replace p454:=eq_true p454
       replace q454:=eq_true q454
       obtain ⟨Ao13,co13,eo13⟩:=Kd.R_slice HO_3.out
       subst eo13
       go_wp2_with (first|(go_at_call 83;(with_reducible refine (slices_Index_int.calls k1 _ _ t447 ((rd_T46 x4_1 x12_1).f1) t455 _ ?side1 ?side2 A11.out).mono ?_);(case side1=>exact qz70);(case side2=>exact (Kd.R_reads' HO_3.out).2.1);rintro e w' ⟨rfl,⟨nd,rfl⟩⟩;(try (rw [drewN_self wr];generalize hq_:World.drewN wr _=wr;have n0_:Aside0 (Kd.R (Kd.int .i64) 3 wr w.heap.size (fun _=>True) (.slice Ao13 t447.length co13) t447):=⟨by rw [← hq_];exact qz44⟩;have n1_:Aside0 (Kd.R k46 46 wr w.heap.size (fun _=>True) (.slice (some ad453) x4_1.length co6) x4_1):=⟨by rw [← hq_];exact qz9⟩;have n2_:Aside0 (Below w.heap.size w wr):=⟨by rw [← hq_];exact qz1⟩;clear HO_3 HO_4 HB hq_;have HO_3:=n0_;have HO_4:=n1_;have HB:=n2_;clear n0_ n1_ n2_));have p12:0≤(x12_1:Int):=of_decide_eq_true qz6;have q12:(x12_1:Int)<((x4_1.length:Int):Int):=of_decide_eq_true qz6;obtain ⟨go12,co12,eo12,gb12,gl12,cl12,HG12⟩:=Kd.R_form HO_4.out (by omega);(first|cases eo12|(injection eo12 with ea_ en_ ec_;(first|subst ea_|(injection ea_ with ea_;subst ea_));subst ec_;clear en_));have GB12:=Aside0.mk gb12;have GG12:=Aside0.mk HG12;clear gb12 gl12 HG12;(first|simp only [add_plain] at hx453_0|skip);(first|simp only [add_plain] at hx453_1|skip);(first|simp only [add_plain] at hx453_2|skip);(first|simp only [add_plain] at hx454_0|skip);(first|simp only [add_plain] at hx454_1|skip);(first|simp only [add_plain] at hx454_2|skip);obtain ⟨ce12,hcl12,hM12,hcc12,hfr12⟩:=Kd.R_elem HO_4.out z46 (x12_1:Int) p12 q12;obtain rfl:=k46_openM hM12;have hx12_0:wr.cell? ⟨go12,(x12_1:Int).toNat * 3,none⟩=some (.int .i64 ((rd_T46 x4_1 x12_1).f0)):=hcc12 0 _ rfl;have hx12_1:wr.cell? ⟨go12,(x12_1:Int).toNat * 3+1,none⟩=some (.int .i64 ((rd_T46 x4_1 x12_1).f1)):=hcc12 1 _ rfl;have hx12_2:wr.cell? ⟨go12,(x12_1:Int).toNat * 3+2,none⟩=some (.string ((rd_T46 x4_1 x12_1).f2)):=hcc12 2 _ rfl;have hf12_0:wr.frozen? ⟨go12,(x12_1:Int).toNat * 3,none⟩=false:=hfr12 0;have hf12_1:wr.frozen? ⟨go12,(x12_1:Int).toNat * 3+1,none⟩=false:=hfr12 1;have hf12_2:wr.frozen? ⟨go12,(x12_1:Int).toNat * 3+2,none⟩=false:=hfr12 2;(try clear hcl12);(try clear hcc12);(try clear hfr12);(try clear hM12);replace p12:=eq_true p12;replace q12:=eq_true q12;have HX14:=Aside0.mk (show Kd.R k46 46 wr w.heap.size (fun _=>True) (.slice (some ⟨go12,0,none⟩) x4_1.length co6) x4_1 from qz9);obtain ⟨ce14,hcl14,hM14,hcc14,hfr14⟩:=Kd.R_elem HX14.out z46 (x12_1:Int) (of_decide_eq_true qz6) (by have h_:(x12_1:Int)<((x4_1.length:Int):Int):=of_decide_eq_true qz6;first|exact h_|(have e_:=(Kd.R_reads' HO_4.out).1;omega)|simpa using h_);obtain rfl:=k46_openM hM14;have HP14:=Kd.R_seg HX14.out (x12_1:Int) (of_decide_eq_true qz6) (by have h_:(x12_1:Int)<((x4_1.length:Int):Int):=of_decide_eq_true qz6;first|exact h_|(have e_:=(Kd.R_reads' HO_4.out).1;omega)|simpa using h_) (seg:=[.int .i64 t455]) (j:=1) hcl14 hcc14 (show 2≤3 from by decide) (x':=(⟨(rd_T46 x4_1 x12_1).f0,t455,(rd_T46 x4_1 x12_1).f2⟩:S46)) (k46_mkM _ _ _ (⟨(rd_T46 x4_1 x12_1).f0,t455,(rd_T46 x4_1 x12_1).f2⟩:S46) ) (fun _ hk=>hk);have hx14_1:=hcc14 1 _ rfl;(try simp only [show (k46).sz=3 from rfl,Nat.mul_one,Nat.add_zero] at hx14_1);have hf14_1:=hfr14 1;(try simp only [show (k46).sz=3 from rfl,Nat.mul_one,Nat.add_zero] at hf14_1);clear hcl14 hcc14 hfr14 hM14)|((with_reducible refine gate_store (t:=3) (p:=31) rfl ?_);refine store_event (t:=3) (p:=31) (v:=?vo_w15) (w1:=(wr.setCell ⟨go12,(x12_1:Int).toNat * 3+1,none⟩ (.int .i64 t455))) ?hg ?ho ?hn ?hr ?_;(case ho=>rfl);(case hg=>rfl);(case hn=>rfl);(case hr=>first|(go_simp;done)|(go_simp;rfl));intro w15 hw;have hg:wr.grownBy w15 (some go12):=(by rw [hw];exact HP14.2);have hp_:Kd.R k46 46 w15 w.heap.size (fun _=>True) (.slice (some ⟨go12,0,none⟩) x4_1.length co6) y456:=(by rw [hw,Ny456.out];exact HP14.1);clear HP14;have n0_:=Aside0.mk (Kd.R_over' (v:=(.slice (some ⟨go12,0,none⟩) x4_1.length co6)) qz44 (Kd.R_typed HO_4.out) (by decide) hg);have n1_:=Aside0.mk (hp_);have n2_:=Aside0.mk ((by rw [hw];exact below_set (HB.out) GB12.out:Below w.heap.size w w15));clear HO_3 HO_4 HB;have HO_3:=n0_;have HO_4:=n1_;have HB:=n2_;clear n0_ n1_ n2_ hg hw hp_))
       (try simp only [← hl4_1])
       go_roundg k1
       case measure=>have:=HK1.out;omega
       case rel=>exact ⟨(y456),(wrap64 (x12_1+1)),qz12,H',⟨by have:=HK1.out;omega⟩,⟨qz91⟩,⟨qz90⟩,⟨qz5⟩⟩
      ·rw [if_neg c10] at H
       have c10b0:(((rd_T46 x4_1 x12_1).f0) == 1)=false:=beq_eq_false_iff_ne.mpr c10
       have c10b1:(((rd_T46 x4_1 x12_1).f0) != 1)=true:=bne_iff_ne.mpr c10
       have H':=Aside0.mk H
       clear H
       have p453:0≤(x12_1:Int):=of_decide_eq_true qz6
       have q453:x12_1<(x4_1.length:Int):=of_decide_eq_true qz6
       obtain ⟨ad453,e453,hx453_0,hx453_1,hx453_2⟩:=at_T46 (Kd.R_reads' HO_4.out).2.2 x12_1 p453 q453
       cases e453
       replace p453:=eq_true p453
       replace q453:=eq_true q453
       go_wp2
       (try simp only [← hl4_1])
       go_roundg k1
       case measure=>have:=HK1.out;omega
       case rel=>exact ⟨(x4_1),(wrap64 (x12_1+1)),qz12,H',⟨by have:=HK1.out;omega⟩,⟨qz91⟩,⟨qz90⟩,⟨qz5⟩⟩
     ·rw [if_neg c9] at H
      exact absurd H (by simp)
    ·rw [if_neg c8] at H
     exact absurd H (by simp)
   ·rw [if_neg c7] at H
    have c7b0:decide (x12_1<(t450.length:Int))=false:=decide_eq_false c7
    have c7b0x0:=c7b0
    try simp only [hl4_1] at c7b0x0
    clear c7
    obtain rfl:=Option.some.inj H
    go_wp2
    go_ret
    exact ⟨_,qz8,qz9,qz5⟩

end Go.Proofs.YtlaicnoikeieeaaDoor.P
