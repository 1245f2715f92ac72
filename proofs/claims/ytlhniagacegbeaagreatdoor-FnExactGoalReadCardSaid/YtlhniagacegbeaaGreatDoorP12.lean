/- Contracts of functions of the program: each as a Lean function, and that its call does what that says; printed by cprint.py (this session) over print.py of the kit. Conditions: the hypotheses of each theorem. -/
import Derived.Test.YtlhniagacegbeaaGreatDoorVZ
import Derived.Test.YtlhniagacegbeaaGreatDoorP0
import Derived.Test.YtlhniagacegbeaaGreatDoorP10
import Derived.Test.YtlhniagacegbeaaGreatDoorP11
namespace Go.Proofs.YtlhniagacegbeaaGreatDoor.P
open Go.RowKit Go.Proofs.YtlhniagacegbeaaGreatDoorW.PrintWords Go.Proofs.YtlhniagacegbeaaGreatDoorW.PrintLast Go.Proofs.YtlhniagacegbeaaGreatDoorW.PrintMore
attribute [local go_sem] max2_int min2_int max_two min_two max_three min_three max_four min_four   -- for this text's walks alone
set_option linter.unusedVariables false
set_option linter.unusedSimpArgs false

/-! ### impl_GoalText: function 13 -/
def impl_GoalText.f (k:Nat) (a0_0:Int) (l0_1:List (S63)) (l0_2:List (S63)) (l0_3:List (S63)):Option (ByteArray):=(impl_GoalOk.f a0_0 l0_1 l0_2 l0_3).bind fun t249=>(if t249=true then ((impl_TrmText.f k l0_1).bind fun t250=>((impl_TrmText.f k l0_2).bind fun t251=>(if a0_0=2 then (if t250.size+3≤9223372036854775807 then (if (t250++(⟨#[32,61,32]⟩:ByteArray)).size+t251.size≤9223372036854775807 then (some ((t250++(⟨#[32,61,32]⟩:ByteArray))++t251)) else (none)) else (none)) else (if a0_0=3 then (some (⟨#[33]⟩:ByteArray)) else (if a0_0=4 then (if t250.size+3≤9223372036854775807 then (if (t250++(⟨#[32,60,32]⟩:ByteArray)).size+t251.size≤9223372036854775807 then (some ((t250++(⟨#[32,60,32]⟩:ByteArray))++t251)) else (none)) else (none)) else (if a0_0=5 then (if t250.size+3≤9223372036854775807 then (if (t250++(⟨#[32,43,32]⟩:ByteArray)).size+t251.size≤9223372036854775807 then (if ((t250++(⟨#[32,43,32]⟩:ByteArray))++t251).size+3≤9223372036854775807 then ((impl_TrmText.f k l0_3).bind fun t252=>(if (((t250++(⟨#[32,43,32]⟩:ByteArray))++t251)++(⟨#[32,61,32]⟩:ByteArray)).size+t252.size≤9223372036854775807 then (some ((((t250++(⟨#[32,43,32]⟩:ByteArray))++t251)++(⟨#[32,61,32]⟩:ByteArray))++t252)) else (none))) else (none)) else (none)) else (none)) else (some t250))))))) else (some (⟨#[]⟩:ByteArray)))
def impl_GoalText.T3:Bool × List (List Nat × List Nat):=(true,[([],[]),([0],[0]),([1],[1]),([],[]),([3],[3]),([4,2],[4]),([2,5,0,1,2],[2]),([5,6,0,1,2,3,4,5,6],[5])])
def impl_GoalText.B3:List Nat:=[0,1,3,0,8,31,63,127]
theorem impl_GoalText.tab3:rtab .any (opsOf Tryz.f13 3)=impl_GoalText.T3:=by kernel_rfl
theorem impl_GoalText.bits3:waitsOk impl_GoalText.T3.2 impl_GoalText.B3=true:=by kernel_rfl
set_option maxHeartbeats 8000000 in
set_option maxRecDepth 100000 in
theorem impl_GoalText.calls (k:Nat) (a0_0:Int) (A0_1:Option Addr) (c0_1:Nat) (l0_1:List (S63)) (A0_2:Option Addr) (c0_2:Nat) (l0_2:List (S63)) (A0_3:Option Addr) (c0_3:Nat) (l0_3:List (S63)) (r:ByteArray) (w:World) (hT_:TabT w) (hr0_1:Kd.C k63 w A0_1 l0_1.length l0_1) (hc0_1:l0_1.length≤c0_1) (hr0_2:Kd.C k63 w A0_2 l0_2.length l0_2) (hc0_2:l0_2.length≤c0_2) (hr0_3:Kd.C k63 w A0_3 l0_3.length l0_3) (hc0_3:l0_3.length≤c0_3) (h:impl_GoalText.f k a0_0 l0_1 l0_2 l0_3=some r) :
  Calls Tryz.prog 13 #[.agg #[.int .i64 a0_0,.slice A0_1 l0_1.length c0_1,.slice A0_2 l0_2.length c0_2,.slice A0_3 l0_3.length c0_3]] w fun e w'=>e = .returned (.string r)∧Below w.heap.size w w':=by
 have HQT_:=Aside0.mk hT_
 clear hT_
 have hu24:=Tryz.underlying24
 have HR0_1:=Aside0.mk hr0_1
 have HC0_1:=Aside0.mk hc0_1
 clear hr0_1 hc0_1
 have HR0_2:=Aside0.mk hr0_2
 have HC0_2:=Aside0.mk hc0_2
 clear hr0_2 hc0_2
 have HR0_3:=Aside0.mk hr0_3
 have HC0_3:=Aside0.mk hc0_3
 clear hr0_3 hc0_3
 have HB:=Aside0.mk (Below.refl w.heap.size w)
 have H:((impl_GoalOk.f a0_0 l0_1 l0_2 l0_3).bind fun t249=>(if t249=true then ((impl_TrmText.f k l0_1).bind fun t250=>((impl_TrmText.f k l0_2).bind fun t251=>(if a0_0=2 then (if t250.size+3≤9223372036854775807 then (if (t250++(⟨#[32,61,32]⟩:ByteArray)).size+t251.size≤9223372036854775807 then (some ((t250++(⟨#[32,61,32]⟩:ByteArray))++t251)) else (none)) else (none)) else (if a0_0=3 then (some (⟨#[33]⟩:ByteArray)) else (if a0_0=4 then (if t250.size+3≤9223372036854775807 then (if (t250++(⟨#[32,60,32]⟩:ByteArray)).size+t251.size≤9223372036854775807 then (some ((t250++(⟨#[32,60,32]⟩:ByteArray))++t251)) else (none)) else (none)) else (if a0_0=5 then (if t250.size+3≤9223372036854775807 then (if (t250++(⟨#[32,43,32]⟩:ByteArray)).size+t251.size≤9223372036854775807 then (if ((t250++(⟨#[32,43,32]⟩:ByteArray))++t251).size+3≤9223372036854775807 then ((impl_TrmText.f k l0_3).bind fun t252=>(if (((t250++(⟨#[32,43,32]⟩:ByteArray))++t251)++(⟨#[32,61,32]⟩:ByteArray)).size+t252.size≤9223372036854775807 then (some ((((t250++(⟨#[32,43,32]⟩:ByteArray))++t251)++(⟨#[32,61,32]⟩:ByteArray))++t252)) else (none))) else (none)) else (none)) else (none)) else (some t250))))))) else (some (⟨#[]⟩:ByteArray))))=some r:=h
 clear h
 replace H:=Option.bind_eq_some_iff.mp H
 obtain ⟨t249,A20,H⟩:=H
 try dsimp only at H
 have A2:=Aside0.mk A20
 clear A20
 by_cases c3:t249=true
 ·subst c3
  have H1:((impl_TrmText.f k l0_1).bind fun t250=>((impl_TrmText.f k l0_2).bind fun t251=>(if a0_0=2 then (if t250.size+3≤9223372036854775807 then (if (t250++(⟨#[32,61,32]⟩:ByteArray)).size+t251.size≤9223372036854775807 then (some ((t250++(⟨#[32,61,32]⟩:ByteArray))++t251)) else (none)) else (none)) else (if a0_0=3 then (some (⟨#[33]⟩:ByteArray)) else (if a0_0=4 then (if t250.size+3≤9223372036854775807 then (if (t250++(⟨#[32,60,32]⟩:ByteArray)).size+t251.size≤9223372036854775807 then (some ((t250++(⟨#[32,60,32]⟩:ByteArray))++t251)) else (none)) else (none)) else (if a0_0=5 then (if t250.size+3≤9223372036854775807 then (if (t250++(⟨#[32,43,32]⟩:ByteArray)).size+t251.size≤9223372036854775807 then (if ((t250++(⟨#[32,43,32]⟩:ByteArray))++t251).size+3≤9223372036854775807 then ((impl_TrmText.f k l0_3).bind fun t252=>(if (((t250++(⟨#[32,43,32]⟩:ByteArray))++t251)++(⟨#[32,61,32]⟩:ByteArray)).size+t252.size≤9223372036854775807 then (some ((((t250++(⟨#[32,43,32]⟩:ByteArray))++t251)++(⟨#[32,61,32]⟩:ByteArray))++t252)) else (none))) else (none)) else (none)) else (none)) else (some t250)))))))=some r:=qz57
  clear H
  have H:=H1
  clear H1
  replace H:=Option.bind_eq_some_iff.mp H
  obtain ⟨t250,A40,H⟩:=H
  try dsimp only at H
  have A4:=Aside0.mk A40
  clear A40
  replace H:=Option.bind_eq_some_iff.mp H
  obtain ⟨t251,A50,H⟩:=H
  try dsimp only at H
  have A5:=Aside0.mk A50
  clear A50
  by_cases c6:a0_0=2
  ·rw [if_pos c6] at H
   have c6b0:(a0_0 == 2)=true:=beq_iff_eq.mpr c6
   have c6b1:(a0_0 != 2)=false:=bne_eq_false_iff_eq.mpr c6
   clear c6
   by_cases c7:t250.size+3≤9223372036854775807
   ·rw [if_pos c7] at H
    have c7b0:=eq_true c7
    have c7b1:decide (t250.size+3≤9223372036854775807)=true:=decide_eq_true c7
    try have c7b2:(9223372036854775807<t250.size+3)=False:=eq_false (Nat.not_lt.2 c7)
    by_cases c8:(t250++(⟨#[32,61,32]⟩:ByteArray)).size+t251.size≤9223372036854775807
    ·rw [if_pos c8] at H
     have c8b0:=eq_true c8
     have c8b1:decide ((t250++(⟨#[32,61,32]⟩:ByteArray)).size+t251.size≤9223372036854775807)=true:=decide_eq_true c8
     try (have c8b1s:=c8b1;simp only [ByteArray.size_append,(show (⟨#[32,61,32]⟩:ByteArray).size=3 from rfl)] at c8b1s)
     try have c8b2:(9223372036854775807<(t250++(⟨#[32,61,32]⟩:ByteArray)).size+t251.size)=False:=eq_false (Nat.not_lt.2 c8)
     try (have c8b2s:=c8b2;simp only [ByteArray.size_append,(show (⟨#[32,61,32]⟩:ByteArray).size=3 from rfl)] at c8b2s)
     obtain rfl:=Option.some.inj H
     go_enter Tryz.func13,Tryz.ntmps13
     try go_wp2_with (first|((with_reducible refine gate_dst (N:=1) rfl ?_);refine box_event ?hg (N:=1) ?hd (cs:=#[.int .i64 a0_0,.slice A0_1 l0_1.length c0_1,.slice A0_2 l0_2.length c0_2,.slice A0_3 l0_3.length c0_3]) (t:=24) ?hr ?_;(case hd=>rfl);(case hg=>rfl);(case hr=>first|(go_simp;done)|(go_simp;rfl));intro gb248 hg w9 hbox hb;have n0_:=Aside0.mk (below_step qz1 hb);have n1_:=Aside0.mk (hbox);have n2_:=Aside0.mk ((by rw [hg];exact (below_size qz1):w.heap.size≤gb248));have n3_:=Aside0.mk ((by rw [hg];exact (below_size qz1):w.heap.size≤gb248));clear HB;have HB:=n0_;have BK248:=n1_;have GW248:=n2_;have GE248:=n3_;clear n0_ n1_ n2_ n3_ hb hbox hg;have hcz10_0:w9.cell? ⟨gb248,0,none⟩=some (.int .i64 a0_0):=(blk_cell BK248.out 0).trans rfl;have hcz10_1:w9.cell? ⟨gb248,1,none⟩=some (.slice A0_1 l0_1.length c0_1):=(blk_cell BK248.out 1).trans rfl;have hcz10_2:w9.cell? ⟨gb248,2,none⟩=some (.slice A0_2 l0_2.length c0_2):=(blk_cell BK248.out 2).trans rfl;have hcz10_3:w9.cell? ⟨gb248,3,none⟩=some (.slice A0_3 l0_3.length c0_3):=(blk_cell BK248.out 3).trans rfl;have hfz10_0:=blk_frozen BK248.out 0;have hfz10_1:=blk_frozen BK248.out 1;have hfz10_2:=blk_frozen BK248.out 2;have hfz10_3:=blk_frozen BK248.out 3)|((with_reducible refine gate_callee (f:=16) rfl ?_);refine goesL_ (some 6) rfl rfl Tryz.func16 (by kernel_rfl) rfl #[.agg #[.int .i64 a0_0,.slice A0_1 l0_1.length c0_1,.slice A0_2 l0_2.length c0_2,.slice A0_3 l0_3.length c0_3]] rfl qz2 ?_;(with_reducible refine (impl_GoalOk.calls a0_0 _ _ l0_1 _ _ l0_2 _ _ l0_3 true _ ?side1 ?side2 ?side3 ?side4 ?side5 ?side6 A2.out).mono ?_);(case side1=>exact qz6);(case side2=>exact HC0_1.out);(case side3=>exact qz10);(case side4=>exact HC0_2.out);(case side5=>exact qz22);(case side6=>exact HC0_3.out);rintro e w11 ⟨rfl,hb⟩;refine ⟨_,rfl,?_⟩;have n0_:=Aside0.mk (blk_below (g:=gb248) (o:=.cells #[.int .i64 a0_0,.slice A0_1 l0_1.length c0_1,.slice A0_2 l0_2.length c0_2,.slice A0_3 l0_3.length c0_3] 24 (0,0)) qz31 hb);have n1_:=Aside0.mk (below_step qz8 hb);clear BK248 HB;have BK248:=n0_;have HB:=n1_;clear n0_ n1_;(try clear hb);(try clear hb2);(try clear hk);(try clear hi)))
     have n0_:=Aside0.mk (blk_drew BK248.out)
     have n1_:=Aside0.mk (below_drew1 HB.out)
     clear BK248 HB
     have BK248:=n0_
     have HB:=n1_
     clear n0_ n1_
     refine start_ (n:=8) (S:=fun w'=>w'.cell? ⟨gb248,0,none⟩=some (.int .i64 a0_0)∧w'.cell? ⟨gb248,1,none⟩=some (.slice A0_1 l0_1.length c0_1)∧w'.cell? ⟨gb248,2,none⟩=some (.slice A0_2 l0_2.length c0_2)∧w'.cell? ⟨gb248,3,none⟩=some (.slice A0_3 l0_3.length c0_3)) (ds:=[]) #[false,false,false,false,false,false,false,false] (by kernel_rfl) rfl rfl ⟨(blk_cell BK248.out 0).trans rfl,(blk_cell BK248.out 1).trans rfl,(blk_cell BK248.out 2).trans rfl,(blk_cell BK248.out 3).trans rfl⟩ (fun hHeld=>?_);refine with_tabW impl_GoalText.tab3 impl_GoalText.bits3 (fun HT_ HW_=>?_)
     generalize w11.drew=w12 at BK248 HB hHeld ⊢
     refine pure_ (i:=0) (N:=some 8) (v:=?_) (a':=?_) #[true,false,false,false,false,false,false,false] rfl rfl (any_of HT_.out (by kernel_rfl)) (fun _ _ _ h=>h) (Or.inl ⟨by rfl,?_⟩) ?_ ?_
     rotate_left
     ·intro w'
      go_simp
      with_reducible rfl
     rotate_left
     ·simp only [Act.put,List.setIfInBounds_toArray,List.set_cons_zero,List.set_cons_succ,i64_w,i32_w]
      rfl
     refine pure_ (i:=3) (N:=some 11) (v:=?_) (a':=?_) #[true,false,false,true,false,false,false,false] rfl rfl (any_of HT_.out (by kernel_rfl)) (fun _ _ _ h=>h) (Or.inl ⟨by rfl,?_⟩) ?_ ?_
     rotate_left
     ·intro w'
      go_simp
      with_reducible rfl
     rotate_left
     ·simp only [Act.put,List.setIfInBounds_toArray,List.set_cons_zero,List.set_cons_succ,i64_w,i32_w]
      rfl
     refine take_ (i:=1) (N:=some 9) (v:=?_) (a':=?_) #[true,true,false,true,false,false,false,false] rfl rfl (take_ofW HT_.out HW_.out (by kernel_rfl)) (fun _ _ _ h=>h) (Or.inl ⟨by rfl,?_⟩) hHeld ?_ ?_
     rotate_left
     ·rintro w' ⟨s0,s1,s2,s3⟩
      go_simp
      with_reducible rfl
     rotate_left
     ·simp only [Act.put,List.setIfInBounds_toArray,List.set_cons_zero,List.set_cons_succ,i64_w,i32_w]
      rfl
     refine take_ (i:=4) (N:=some 12) (v:=?_) (a':=?_) #[true,true,false,true,true,false,false,false] rfl rfl (take_ofW HT_.out HW_.out (by kernel_rfl)) (fun _ _ _ h=>h) (Or.inl ⟨by rfl,?_⟩) hHeld ?_ ?_
     rotate_left
     ·rintro w' ⟨s0,s1,s2,s3⟩
      go_simp
      with_reducible rfl
     rotate_left
     ·simp only [Act.put,List.setIfInBounds_toArray,List.set_cons_zero,List.set_cons_succ,i64_w,i32_w]
      rfl
     refine one_ (i:=2) (N:=some 10) #[true,true,true,true,true,false,false,false] rfl rfl (one_of HT_.out (by kernel_rfl)) (by decide) (fun K hK=>?_)
     refine goes_ Tryz.func35 (by kernel_rfl) rfl #[.slice A0_1 l0_1.length c0_1] (by rfl) rfl rfl qz2 ?_
     with_reducible refine (impl_TrmText.calls (hT_:=HQT_.out.below qz8) k _ _ l0_1 t250 _ ?side1 ?side2 A4.out).mono ?_
     (case side1=>exact qz6)
     (case side2=>exact HC0_1.out)
     rintro e w13 ⟨rfl,hb⟩
     refine ⟨_,rfl,?_⟩
     have n0_:=Aside0.mk (blk_below (g:=gb248) (o:=.cells #[.int .i64 a0_0,.slice A0_1 l0_1.length c0_1,.slice A0_2 l0_2.length c0_2,.slice A0_3 l0_3.length c0_3] 24 (0,0)) qz31 hb)
     have n1_:=Aside0.mk (below_step qz8 hb)
     clear BK248 HB
     have BK248:=n0_
     have HB:=n1_
     clear n0_ n1_
     (try clear hb)
     (try clear hb2)
     (try clear hk)
     (try clear hi)
     refine hK.out _ _ ⟨(blk_cell BK248.out 0).trans rfl,(blk_cell BK248.out 1).trans rfl,(blk_cell BK248.out 2).trans rfl,(blk_cell BK248.out 3).trans rfl⟩ (fun hHeld=>?_)
     clear hK K
     refine norm_ (a':=?_) ?_ ?_
     rotate_left
     ·show Act.put _ (some 10) _=_
      simp only [Act.put,List.setIfInBounds_toArray,List.set_cons_zero,List.set_cons_succ,i64_w,i32_w]
      rfl
     refine one_ (i:=5) (N:=some 13) #[true,true,true,true,true,true,false,false] rfl rfl (one_of HT_.out (by kernel_rfl)) (by decide) (fun K hK=>?_)
     refine goes_ Tryz.func35 (by kernel_rfl) rfl #[.slice A0_2 l0_2.length c0_2] (by rfl) rfl rfl qz2 ?_
     with_reducible refine (impl_TrmText.calls (hT_:=HQT_.out.below qz8) k _ _ l0_2 t251 _ ?side1 ?side2 A5.out).mono ?_
     (case side1=>exact qz10)
     (case side2=>exact HC0_2.out)
     rintro e w14 ⟨rfl,hb⟩
     refine ⟨_,rfl,?_⟩
     have n0_:=Aside0.mk (blk_below (g:=gb248) (o:=.cells #[.int .i64 a0_0,.slice A0_1 l0_1.length c0_1,.slice A0_2 l0_2.length c0_2,.slice A0_3 l0_3.length c0_3] 24 (0,0)) qz31 hb)
     have n1_:=Aside0.mk (below_step qz8 hb)
     clear BK248 HB
     have BK248:=n0_
     have HB:=n1_
     clear n0_ n1_
     (try clear hb)
     (try clear hb2)
     (try clear hk)
     (try clear hi)
     refine hK.out _ _ ⟨(blk_cell BK248.out 0).trans rfl,(blk_cell BK248.out 1).trans rfl,(blk_cell BK248.out 2).trans rfl,(blk_cell BK248.out 3).trans rfl⟩ (fun hHeld=>?_)
     clear hK K
     refine norm_ (a':=?_) ?_ ?_
     rotate_left
     ·show Act.put _ (some 13) _=_
      simp only [Act.put,List.setIfInBounds_toArray,List.set_cons_zero,List.set_cons_succ,i64_w,i32_w]
      rfl
     refine pure_ (i:=6) (N:=some 3) (v:=?_) (a':=?_) #[true,true,true,true,true,true,true,false] rfl rfl (any_of HT_.out (by kernel_rfl)) (fun _ _ _ h=>h) (Or.inl ⟨by rfl,?_⟩) ?_ ?_
     rotate_left
     ·intro w'
      go_simp
      with_reducible rfl
     rotate_left
     ·simp only [Act.put,List.setIfInBounds_toArray,List.set_cons_zero,List.set_cons_succ,i64_w,i32_w]
      rfl
     refine pure_ (i:=7) (N:=some 4) (v:=?_) (a':=?_) #[true,true,true,true,true,true,true,true] rfl rfl (any_of HT_.out (by kernel_rfl)) (fun _ _ _ h=>h) (Or.inl ⟨by rfl,?_⟩) ?_ ?_
     rotate_left
     ·intro w'
      go_simp
      with_reducible rfl
     rotate_left
     ·simp only [Act.put,List.setIfInBounds_toArray,List.set_cons_zero,List.set_cons_succ,i64_w,i32_w]
      rfl
     refine done_ (done_of HT_.out (by kernel_rfl)) ?_
     have hcz15_0:w14.cell? ⟨gb248,0,none⟩=some (.int .i64 a0_0):=(blk_cell BK248.out 0).trans rfl
     have hcz15_1:w14.cell? ⟨gb248,1,none⟩=some (.slice A0_1 l0_1.length c0_1):=(blk_cell BK248.out 1).trans rfl
     have hcz15_2:w14.cell? ⟨gb248,2,none⟩=some (.slice A0_2 l0_2.length c0_2):=(blk_cell BK248.out 2).trans rfl
     have hcz15_3:w14.cell? ⟨gb248,3,none⟩=some (.slice A0_3 l0_3.length c0_3):=(blk_cell BK248.out 3).trans rfl
     have hfz15_0:=blk_frozen BK248.out 0
     have hfz15_1:=blk_frozen BK248.out 1
     have hfz15_2:=blk_frozen BK248.out 2
     have hfz15_3:=blk_frozen BK248.out 3
     try go_wp2
     go_ret
     exact ⟨qz4,qz8⟩
    ·rw [if_neg c8] at H
     exact absurd H (by simp)
   ·rw [if_neg c7] at H
    exact absurd H (by simp)
  ·rw [if_neg c6] at H
   have c6b0:(a0_0 == 2)=false:=beq_eq_false_iff_ne.mpr c6
   have c6b1:(a0_0 != 2)=true:=bne_iff_ne.mpr c6
   by_cases c16:a0_0=3
   ·rw [if_pos c16] at H
    have c16b0:(a0_0 == 3)=true:=beq_iff_eq.mpr c16
    have c16b1:(a0_0 != 3)=false:=bne_eq_false_iff_eq.mpr c16
    clear c16
    obtain rfl:=Option.some.inj H
    go_enter Tryz.func13,Tryz.ntmps13
    try go_wp2_with (first|((with_reducible refine gate_dst (N:=1) rfl ?_);refine box_event ?hg (N:=1) ?hd (cs:=#[.int .i64 a0_0,.slice A0_1 l0_1.length c0_1,.slice A0_2 l0_2.length c0_2,.slice A0_3 l0_3.length c0_3]) (t:=24) ?hr ?_;(case hd=>rfl);(case hg=>rfl);(case hr=>first|(go_simp;done)|(go_simp;rfl));intro gb248 hg w17 hbox hb;have n0_:=Aside0.mk (below_step qz1 hb);have n1_:=Aside0.mk (hbox);have n2_:=Aside0.mk ((by rw [hg];exact (below_size qz1):w.heap.size≤gb248));have n3_:=Aside0.mk ((by rw [hg];exact (below_size qz1):w.heap.size≤gb248));clear HB;have HB:=n0_;have BK248:=n1_;have GW248:=n2_;have GE248:=n3_;clear n0_ n1_ n2_ n3_ hb hbox hg;have hcz18_0:w17.cell? ⟨gb248,0,none⟩=some (.int .i64 a0_0):=(blk_cell BK248.out 0).trans rfl;have hcz18_1:w17.cell? ⟨gb248,1,none⟩=some (.slice A0_1 l0_1.length c0_1):=(blk_cell BK248.out 1).trans rfl;have hcz18_2:w17.cell? ⟨gb248,2,none⟩=some (.slice A0_2 l0_2.length c0_2):=(blk_cell BK248.out 2).trans rfl;have hcz18_3:w17.cell? ⟨gb248,3,none⟩=some (.slice A0_3 l0_3.length c0_3):=(blk_cell BK248.out 3).trans rfl;have hfz18_0:=blk_frozen BK248.out 0;have hfz18_1:=blk_frozen BK248.out 1;have hfz18_2:=blk_frozen BK248.out 2;have hfz18_3:=blk_frozen BK248.out 3)|((with_reducible refine gate_callee (f:=16) rfl ?_);refine goesL_ (some 6) rfl rfl Tryz.func16 (by kernel_rfl) rfl #[.agg #[.int .i64 a0_0,.slice A0_1 l0_1.length c0_1,.slice A0_2 l0_2.length c0_2,.slice A0_3 l0_3.length c0_3]] rfl qz2 ?_;(with_reducible refine (impl_GoalOk.calls a0_0 _ _ l0_1 _ _ l0_2 _ _ l0_3 true _ ?side1 ?side2 ?side3 ?side4 ?side5 ?side6 A2.out).mono ?_);(case side1=>exact qz6);(case side2=>exact HC0_1.out);(case side3=>exact qz10);(case side4=>exact HC0_2.out);(case side5=>exact qz22);(case side6=>exact HC0_3.out);rintro e w19 ⟨rfl,hb⟩;refine ⟨_,rfl,?_⟩;have n0_:=Aside0.mk (blk_below (g:=gb248) (o:=.cells #[.int .i64 a0_0,.slice A0_1 l0_1.length c0_1,.slice A0_2 l0_2.length c0_2,.slice A0_3 l0_3.length c0_3] 24 (0,0)) qz31 hb);have n1_:=Aside0.mk (below_step qz8 hb);clear BK248 HB;have BK248:=n0_;have HB:=n1_;clear n0_ n1_;(try clear hb);(try clear hb2);(try clear hk);(try clear hi)))
    have n0_:=Aside0.mk (blk_drew BK248.out)
    have n1_:=Aside0.mk (below_drew1 HB.out)
    clear BK248 HB
    have BK248:=n0_
    have HB:=n1_
    clear n0_ n1_
    refine start_ (n:=8) (S:=fun w'=>w'.cell? ⟨gb248,0,none⟩=some (.int .i64 a0_0)∧w'.cell? ⟨gb248,1,none⟩=some (.slice A0_1 l0_1.length c0_1)∧w'.cell? ⟨gb248,2,none⟩=some (.slice A0_2 l0_2.length c0_2)∧w'.cell? ⟨gb248,3,none⟩=some (.slice A0_3 l0_3.length c0_3)) (ds:=[]) #[false,false,false,false,false,false,false,false] (by kernel_rfl) rfl rfl ⟨(blk_cell BK248.out 0).trans rfl,(blk_cell BK248.out 1).trans rfl,(blk_cell BK248.out 2).trans rfl,(blk_cell BK248.out 3).trans rfl⟩ (fun hHeld=>?_);refine with_tabW impl_GoalText.tab3 impl_GoalText.bits3 (fun HT_ HW_=>?_)
    generalize w19.drew=w20 at BK248 HB hHeld ⊢
    refine pure_ (i:=0) (N:=some 8) (v:=?_) (a':=?_) #[true,false,false,false,false,false,false,false] rfl rfl (any_of HT_.out (by kernel_rfl)) (fun _ _ _ h=>h) (Or.inl ⟨by rfl,?_⟩) ?_ ?_
    rotate_left
    ·intro w'
     go_simp
     with_reducible rfl
    rotate_left
    ·simp only [Act.put,List.setIfInBounds_toArray,List.set_cons_zero,List.set_cons_succ,i64_w,i32_w]
     rfl
    refine pure_ (i:=3) (N:=some 11) (v:=?_) (a':=?_) #[true,false,false,true,false,false,false,false] rfl rfl (any_of HT_.out (by kernel_rfl)) (fun _ _ _ h=>h) (Or.inl ⟨by rfl,?_⟩) ?_ ?_
    rotate_left
    ·intro w'
     go_simp
     with_reducible rfl
    rotate_left
    ·simp only [Act.put,List.setIfInBounds_toArray,List.set_cons_zero,List.set_cons_succ,i64_w,i32_w]
     rfl
    refine take_ (i:=1) (N:=some 9) (v:=?_) (a':=?_) #[true,true,false,true,false,false,false,false] rfl rfl (take_ofW HT_.out HW_.out (by kernel_rfl)) (fun _ _ _ h=>h) (Or.inl ⟨by rfl,?_⟩) hHeld ?_ ?_
    rotate_left
    ·rintro w' ⟨s0,s1,s2,s3⟩
     go_simp
     with_reducible rfl
    rotate_left
    ·simp only [Act.put,List.setIfInBounds_toArray,List.set_cons_zero,List.set_cons_succ,i64_w,i32_w]
     rfl
    refine take_ (i:=4) (N:=some 12) (v:=?_) (a':=?_) #[true,true,false,true,true,false,false,false] rfl rfl (take_ofW HT_.out HW_.out (by kernel_rfl)) (fun _ _ _ h=>h) (Or.inl ⟨by rfl,?_⟩) hHeld ?_ ?_
    rotate_left
    ·rintro w' ⟨s0,s1,s2,s3⟩
     go_simp
     with_reducible rfl
    rotate_left
    ·simp only [Act.put,List.setIfInBounds_toArray,List.set_cons_zero,List.set_cons_succ,i64_w,i32_w]
     rfl
    refine one_ (i:=2) (N:=some 10) #[true,true,true,true,true,false,false,false] rfl rfl (one_of HT_.out (by kernel_rfl)) (by decide) (fun K hK=>?_)
    refine goes_ Tryz.func35 (by kernel_rfl) rfl #[.slice A0_1 l0_1.length c0_1] (by rfl) rfl rfl qz2 ?_
    with_reducible refine (impl_TrmText.calls (hT_:=HQT_.out.below qz8) k _ _ l0_1 t250 _ ?side1 ?side2 A4.out).mono ?_
    (case side1=>exact qz6)
    (case side2=>exact HC0_1.out)
    rintro e w21 ⟨rfl,hb⟩
    refine ⟨_,rfl,?_⟩
    have n0_:=Aside0.mk (blk_below (g:=gb248) (o:=.cells #[.int .i64 a0_0,.slice A0_1 l0_1.length c0_1,.slice A0_2 l0_2.length c0_2,.slice A0_3 l0_3.length c0_3] 24 (0,0)) qz31 hb)
    have n1_:=Aside0.mk (below_step qz8 hb)
    clear BK248 HB
    have BK248:=n0_
    have HB:=n1_
    clear n0_ n1_
    (try clear hb)
    (try clear hb2)
    (try clear hk)
    (try clear hi)
    refine hK.out _ _ ⟨(blk_cell BK248.out 0).trans rfl,(blk_cell BK248.out 1).trans rfl,(blk_cell BK248.out 2).trans rfl,(blk_cell BK248.out 3).trans rfl⟩ (fun hHeld=>?_)
    clear hK K
    refine norm_ (a':=?_) ?_ ?_
    rotate_left
    ·show Act.put _ (some 10) _=_
     simp only [Act.put,List.setIfInBounds_toArray,List.set_cons_zero,List.set_cons_succ,i64_w,i32_w]
     rfl
    refine one_ (i:=5) (N:=some 13) #[true,true,true,true,true,true,false,false] rfl rfl (one_of HT_.out (by kernel_rfl)) (by decide) (fun K hK=>?_)
    refine goes_ Tryz.func35 (by kernel_rfl) rfl #[.slice A0_2 l0_2.length c0_2] (by rfl) rfl rfl qz2 ?_
    with_reducible refine (impl_TrmText.calls (hT_:=HQT_.out.below qz8) k _ _ l0_2 t251 _ ?side1 ?side2 A5.out).mono ?_
    (case side1=>exact qz10)
    (case side2=>exact HC0_2.out)
    rintro e w22 ⟨rfl,hb⟩
    refine ⟨_,rfl,?_⟩
    have n0_:=Aside0.mk (blk_below (g:=gb248) (o:=.cells #[.int .i64 a0_0,.slice A0_1 l0_1.length c0_1,.slice A0_2 l0_2.length c0_2,.slice A0_3 l0_3.length c0_3] 24 (0,0)) qz31 hb)
    have n1_:=Aside0.mk (below_step qz8 hb)
    clear BK248 HB
    have BK248:=n0_
    have HB:=n1_
    clear n0_ n1_
    (try clear hb)
    (try clear hb2)
    (try clear hk)
    (try clear hi)
    refine hK.out _ _ ⟨(blk_cell BK248.out 0).trans rfl,(blk_cell BK248.out 1).trans rfl,(blk_cell BK248.out 2).trans rfl,(blk_cell BK248.out 3).trans rfl⟩ (fun hHeld=>?_)
    clear hK K
    refine norm_ (a':=?_) ?_ ?_
    rotate_left
    ·show Act.put _ (some 13) _=_
     simp only [Act.put,List.setIfInBounds_toArray,List.set_cons_zero,List.set_cons_succ,i64_w,i32_w]
     rfl
    refine pure_ (i:=6) (N:=some 3) (v:=?_) (a':=?_) #[true,true,true,true,true,true,true,false] rfl rfl (any_of HT_.out (by kernel_rfl)) (fun _ _ _ h=>h) (Or.inl ⟨by rfl,?_⟩) ?_ ?_
    rotate_left
    ·intro w'
     go_simp
     with_reducible rfl
    rotate_left
    ·simp only [Act.put,List.setIfInBounds_toArray,List.set_cons_zero,List.set_cons_succ,i64_w,i32_w]
     rfl
    refine pure_ (i:=7) (N:=some 4) (v:=?_) (a':=?_) #[true,true,true,true,true,true,true,true] rfl rfl (any_of HT_.out (by kernel_rfl)) (fun _ _ _ h=>h) (Or.inl ⟨by rfl,?_⟩) ?_ ?_
    rotate_left
    ·intro w'
     go_simp
     with_reducible rfl
    rotate_left
    ·simp only [Act.put,List.setIfInBounds_toArray,List.set_cons_zero,List.set_cons_succ,i64_w,i32_w]
     rfl
    refine done_ (done_of HT_.out (by kernel_rfl)) ?_
    have hcz23_0:w22.cell? ⟨gb248,0,none⟩=some (.int .i64 a0_0):=(blk_cell BK248.out 0).trans rfl
    have hcz23_1:w22.cell? ⟨gb248,1,none⟩=some (.slice A0_1 l0_1.length c0_1):=(blk_cell BK248.out 1).trans rfl
    have hcz23_2:w22.cell? ⟨gb248,2,none⟩=some (.slice A0_2 l0_2.length c0_2):=(blk_cell BK248.out 2).trans rfl
    have hcz23_3:w22.cell? ⟨gb248,3,none⟩=some (.slice A0_3 l0_3.length c0_3):=(blk_cell BK248.out 3).trans rfl
    have hfz23_0:=blk_frozen BK248.out 0
    have hfz23_1:=blk_frozen BK248.out 1
    have hfz23_2:=blk_frozen BK248.out 2
    have hfz23_3:=blk_frozen BK248.out 3
    try go_wp2
    go_ret
    exact ⟨qz4,qz8⟩
   ·rw [if_neg c16] at H
    have c16b0:(a0_0 == 3)=false:=beq_eq_false_iff_ne.mpr c16
    have c16b1:(a0_0 != 3)=true:=bne_iff_ne.mpr c16
    by_cases c24:a0_0=4
    ·rw [if_pos c24] at H
     have c24b0:(a0_0 == 4)=true:=beq_iff_eq.mpr c24
     have c24b1:(a0_0 != 4)=false:=bne_eq_false_iff_eq.mpr c24
     clear c24
     by_cases c25:t250.size+3≤9223372036854775807
     ·rw [if_pos c25] at H
      have c25b0:=eq_true c25
      have c25b1:decide (t250.size+3≤9223372036854775807)=true:=decide_eq_true c25
      try have c25b2:(9223372036854775807<t250.size+3)=False:=eq_false (Nat.not_lt.2 c25)
      by_cases c26:(t250++(⟨#[32,60,32]⟩:ByteArray)).size+t251.size≤9223372036854775807
      ·rw [if_pos c26] at H
       have c26b0:=eq_true c26
       have c26b1:decide ((t250++(⟨#[32,60,32]⟩:ByteArray)).size+t251.size≤9223372036854775807)=true:=decide_eq_true c26
       try (have c26b1s:=c26b1;simp only [ByteArray.size_append,(show (⟨#[32,60,32]⟩:ByteArray).size=3 from rfl)] at c26b1s)
       try have c26b2:(9223372036854775807<(t250++(⟨#[32,60,32]⟩:ByteArray)).size+t251.size)=False:=eq_false (Nat.not_lt.2 c26)
       try (have c26b2s:=c26b2;simp only [ByteArray.size_append,(show (⟨#[32,60,32]⟩:ByteArray).size=3 from rfl)] at c26b2s)
       obtain rfl:=Option.some.inj H
       go_enter Tryz.func13,Tryz.ntmps13
       try go_wp2_with (first|((with_reducible refine gate_dst (N:=1) rfl ?_);refine box_event ?hg (N:=1) ?hd (cs:=#[.int .i64 a0_0,.slice A0_1 l0_1.length c0_1,.slice A0_2 l0_2.length c0_2,.slice A0_3 l0_3.length c0_3]) (t:=24) ?hr ?_;(case hd=>rfl);(case hg=>rfl);(case hr=>first|(go_simp;done)|(go_simp;rfl));intro gb248 hg w27 hbox hb;have n0_:=Aside0.mk (below_step qz1 hb);have n1_:=Aside0.mk (hbox);have n2_:=Aside0.mk ((by rw [hg];exact (below_size qz1):w.heap.size≤gb248));have n3_:=Aside0.mk ((by rw [hg];exact (below_size qz1):w.heap.size≤gb248));clear HB;have HB:=n0_;have BK248:=n1_;have GW248:=n2_;have GE248:=n3_;clear n0_ n1_ n2_ n3_ hb hbox hg;have hcz28_0:w27.cell? ⟨gb248,0,none⟩=some (.int .i64 a0_0):=(blk_cell BK248.out 0).trans rfl;have hcz28_1:w27.cell? ⟨gb248,1,none⟩=some (.slice A0_1 l0_1.length c0_1):=(blk_cell BK248.out 1).trans rfl;have hcz28_2:w27.cell? ⟨gb248,2,none⟩=some (.slice A0_2 l0_2.length c0_2):=(blk_cell BK248.out 2).trans rfl;have hcz28_3:w27.cell? ⟨gb248,3,none⟩=some (.slice A0_3 l0_3.length c0_3):=(blk_cell BK248.out 3).trans rfl;have hfz28_0:=blk_frozen BK248.out 0;have hfz28_1:=blk_frozen BK248.out 1;have hfz28_2:=blk_frozen BK248.out 2;have hfz28_3:=blk_frozen BK248.out 3)|((with_reducible refine gate_callee (f:=16) rfl ?_);refine goesL_ (some 6) rfl rfl Tryz.func16 (by kernel_rfl) rfl #[.agg #[.int .i64 a0_0,.slice A0_1 l0_1.length c0_1,.slice A0_2 l0_2.length c0_2,.slice A0_3 l0_3.length c0_3]] rfl qz2 ?_;(with_reducible refine (impl_GoalOk.calls a0_0 _ _ l0_1 _ _ l0_2 _ _ l0_3 true _ ?side1 ?side2 ?side3 ?side4 ?side5 ?side6 A2.out).mono ?_);(case side1=>exact qz6);(case side2=>exact HC0_1.out);(case side3=>exact qz10);(case side4=>exact HC0_2.out);(case side5=>exact qz22);(case side6=>exact HC0_3.out);rintro e w29 ⟨rfl,hb⟩;refine ⟨_,rfl,?_⟩;have n0_:=Aside0.mk (blk_below (g:=gb248) (o:=.cells #[.int .i64 a0_0,.slice A0_1 l0_1.length c0_1,.slice A0_2 l0_2.length c0_2,.slice A0_3 l0_3.length c0_3] 24 (0,0)) qz31 hb);have n1_:=Aside0.mk (below_step qz8 hb);clear BK248 HB;have BK248:=n0_;have HB:=n1_;clear n0_ n1_;(try clear hb);(try clear hb2);(try clear hk);(try clear hi)))
       have n0_:=Aside0.mk (blk_drew BK248.out)
       have n1_:=Aside0.mk (below_drew1 HB.out)
       clear BK248 HB
       have BK248:=n0_
       have HB:=n1_
       clear n0_ n1_
       refine start_ (n:=8) (S:=fun w'=>w'.cell? ⟨gb248,0,none⟩=some (.int .i64 a0_0)∧w'.cell? ⟨gb248,1,none⟩=some (.slice A0_1 l0_1.length c0_1)∧w'.cell? ⟨gb248,2,none⟩=some (.slice A0_2 l0_2.length c0_2)∧w'.cell? ⟨gb248,3,none⟩=some (.slice A0_3 l0_3.length c0_3)) (ds:=[]) #[false,false,false,false,false,false,false,false] (by kernel_rfl) rfl rfl ⟨(blk_cell BK248.out 0).trans rfl,(blk_cell BK248.out 1).trans rfl,(blk_cell BK248.out 2).trans rfl,(blk_cell BK248.out 3).trans rfl⟩ (fun hHeld=>?_);refine with_tabW impl_GoalText.tab3 impl_GoalText.bits3 (fun HT_ HW_=>?_)
       generalize w29.drew=w30 at BK248 HB hHeld ⊢
       refine pure_ (i:=0) (N:=some 8) (v:=?_) (a':=?_) #[true,false,false,false,false,false,false,false] rfl rfl (any_of HT_.out (by kernel_rfl)) (fun _ _ _ h=>h) (Or.inl ⟨by rfl,?_⟩) ?_ ?_
       rotate_left
       ·intro w'
        go_simp
        with_reducible rfl
       rotate_left
       ·simp only [Act.put,List.setIfInBounds_toArray,List.set_cons_zero,List.set_cons_succ,i64_w,i32_w]
        rfl
       refine pure_ (i:=3) (N:=some 11) (v:=?_) (a':=?_) #[true,false,false,true,false,false,false,false] rfl rfl (any_of HT_.out (by kernel_rfl)) (fun _ _ _ h=>h) (Or.inl ⟨by rfl,?_⟩) ?_ ?_
       rotate_left
       ·intro w'
        go_simp
        with_reducible rfl
       rotate_left
       ·simp only [Act.put,List.setIfInBounds_toArray,List.set_cons_zero,List.set_cons_succ,i64_w,i32_w]
        rfl
       refine take_ (i:=1) (N:=some 9) (v:=?_) (a':=?_) #[true,true,false,true,false,false,false,false] rfl rfl (take_ofW HT_.out HW_.out (by kernel_rfl)) (fun _ _ _ h=>h) (Or.inl ⟨by rfl,?_⟩) hHeld ?_ ?_
       rotate_left
       ·rintro w' ⟨s0,s1,s2,s3⟩
        go_simp
        with_reducible rfl
       rotate_left
       ·simp only [Act.put,List.setIfInBounds_toArray,List.set_cons_zero,List.set_cons_succ,i64_w,i32_w]
        rfl
       refine take_ (i:=4) (N:=some 12) (v:=?_) (a':=?_) #[true,true,false,true,true,false,false,false] rfl rfl (take_ofW HT_.out HW_.out (by kernel_rfl)) (fun _ _ _ h=>h) (Or.inl ⟨by rfl,?_⟩) hHeld ?_ ?_
       rotate_left
       ·rintro w' ⟨s0,s1,s2,s3⟩
        go_simp
        with_reducible rfl
       rotate_left
       ·simp only [Act.put,List.setIfInBounds_toArray,List.set_cons_zero,List.set_cons_succ,i64_w,i32_w]
        rfl
       refine one_ (i:=2) (N:=some 10) #[true,true,true,true,true,false,false,false] rfl rfl (one_of HT_.out (by kernel_rfl)) (by decide) (fun K hK=>?_)
       refine goes_ Tryz.func35 (by kernel_rfl) rfl #[.slice A0_1 l0_1.length c0_1] (by rfl) rfl rfl qz2 ?_
       with_reducible refine (impl_TrmText.calls (hT_:=HQT_.out.below qz8) k _ _ l0_1 t250 _ ?side1 ?side2 A4.out).mono ?_
       (case side1=>exact qz6)
       (case side2=>exact HC0_1.out)
       rintro e w31 ⟨rfl,hb⟩
       refine ⟨_,rfl,?_⟩
       have n0_:=Aside0.mk (blk_below (g:=gb248) (o:=.cells #[.int .i64 a0_0,.slice A0_1 l0_1.length c0_1,.slice A0_2 l0_2.length c0_2,.slice A0_3 l0_3.length c0_3] 24 (0,0)) qz31 hb)
       have n1_:=Aside0.mk (below_step qz8 hb)
       clear BK248 HB
       have BK248:=n0_
       have HB:=n1_
       clear n0_ n1_
       (try clear hb)
       (try clear hb2)
       (try clear hk)
       (try clear hi)
       refine hK.out _ _ ⟨(blk_cell BK248.out 0).trans rfl,(blk_cell BK248.out 1).trans rfl,(blk_cell BK248.out 2).trans rfl,(blk_cell BK248.out 3).trans rfl⟩ (fun hHeld=>?_)
       clear hK K
       refine norm_ (a':=?_) ?_ ?_
       rotate_left
       ·show Act.put _ (some 10) _=_
        simp only [Act.put,List.setIfInBounds_toArray,List.set_cons_zero,List.set_cons_succ,i64_w,i32_w]
        rfl
       refine one_ (i:=5) (N:=some 13) #[true,true,true,true,true,true,false,false] rfl rfl (one_of HT_.out (by kernel_rfl)) (by decide) (fun K hK=>?_)
       refine goes_ Tryz.func35 (by kernel_rfl) rfl #[.slice A0_2 l0_2.length c0_2] (by rfl) rfl rfl qz2 ?_
       with_reducible refine (impl_TrmText.calls (hT_:=HQT_.out.below qz8) k _ _ l0_2 t251 _ ?side1 ?side2 A5.out).mono ?_
       (case side1=>exact qz10)
       (case side2=>exact HC0_2.out)
       rintro e w32 ⟨rfl,hb⟩
       refine ⟨_,rfl,?_⟩
       have n0_:=Aside0.mk (blk_below (g:=gb248) (o:=.cells #[.int .i64 a0_0,.slice A0_1 l0_1.length c0_1,.slice A0_2 l0_2.length c0_2,.slice A0_3 l0_3.length c0_3] 24 (0,0)) qz31 hb)
       have n1_:=Aside0.mk (below_step qz8 hb)
       clear BK248 HB
       have BK248:=n0_
       have HB:=n1_
       clear n0_ n1_
       (try clear hb)
       (try clear hb2)
       (try clear hk)
       (try clear hi)
       refine hK.out _ _ ⟨(blk_cell BK248.out 0).trans rfl,(blk_cell BK248.out 1).trans rfl,(blk_cell BK248.out 2).trans rfl,(blk_cell BK248.out 3).trans rfl⟩ (fun hHeld=>?_)
       clear hK K
       refine norm_ (a':=?_) ?_ ?_
       rotate_left
       ·show Act.put _ (some 13) _=_
        simp only [Act.put,List.setIfInBounds_toArray,List.set_cons_zero,List.set_cons_succ,i64_w,i32_w]
        rfl
       refine pure_ (i:=6) (N:=some 3) (v:=?_) (a':=?_) #[true,true,true,true,true,true,true,false] rfl rfl (any_of HT_.out (by kernel_rfl)) (fun _ _ _ h=>h) (Or.inl ⟨by rfl,?_⟩) ?_ ?_
       rotate_left
       ·intro w'
        go_simp
        with_reducible rfl
       rotate_left
       ·simp only [Act.put,List.setIfInBounds_toArray,List.set_cons_zero,List.set_cons_succ,i64_w,i32_w]
        rfl
       refine pure_ (i:=7) (N:=some 4) (v:=?_) (a':=?_) #[true,true,true,true,true,true,true,true] rfl rfl (any_of HT_.out (by kernel_rfl)) (fun _ _ _ h=>h) (Or.inl ⟨by rfl,?_⟩) ?_ ?_
       rotate_left
       ·intro w'
        go_simp
        with_reducible rfl
       rotate_left
       ·simp only [Act.put,List.setIfInBounds_toArray,List.set_cons_zero,List.set_cons_succ,i64_w,i32_w]
        rfl
       refine done_ (done_of HT_.out (by kernel_rfl)) ?_
       have hcz33_0:w32.cell? ⟨gb248,0,none⟩=some (.int .i64 a0_0):=(blk_cell BK248.out 0).trans rfl
       have hcz33_1:w32.cell? ⟨gb248,1,none⟩=some (.slice A0_1 l0_1.length c0_1):=(blk_cell BK248.out 1).trans rfl
       have hcz33_2:w32.cell? ⟨gb248,2,none⟩=some (.slice A0_2 l0_2.length c0_2):=(blk_cell BK248.out 2).trans rfl
       have hcz33_3:w32.cell? ⟨gb248,3,none⟩=some (.slice A0_3 l0_3.length c0_3):=(blk_cell BK248.out 3).trans rfl
       have hfz33_0:=blk_frozen BK248.out 0
       have hfz33_1:=blk_frozen BK248.out 1
       have hfz33_2:=blk_frozen BK248.out 2
       have hfz33_3:=blk_frozen BK248.out 3
       try go_wp2
       go_ret
       exact ⟨qz4,qz8⟩
      ·rw [if_neg c26] at H
       exact absurd H (by simp)
     ·rw [if_neg c25] at H
      exact absurd H (by simp)
    ·rw [if_neg c24] at H
     have c24b0:(a0_0 == 4)=false:=beq_eq_false_iff_ne.mpr c24
     have c24b1:(a0_0 != 4)=true:=bne_iff_ne.mpr c24
     by_cases c34:a0_0=5
     ·rw [if_pos c34] at H
      have c34b0:(a0_0 == 5)=true:=beq_iff_eq.mpr c34
      have c34b1:(a0_0 != 5)=false:=bne_eq_false_iff_eq.mpr c34
      clear c34
      by_cases c35:t250.size+3≤9223372036854775807
      ·rw [if_pos c35] at H
       have c35b0:=eq_true c35
       have c35b1:decide (t250.size+3≤9223372036854775807)=true:=decide_eq_true c35
       try have c35b2:(9223372036854775807<t250.size+3)=False:=eq_false (Nat.not_lt.2 c35)
       by_cases c36:(t250++(⟨#[32,43,32]⟩:ByteArray)).size+t251.size≤9223372036854775807
       ·rw [if_pos c36] at H
        have c36b0:=eq_true c36
        have c36b1:decide ((t250++(⟨#[32,43,32]⟩:ByteArray)).size+t251.size≤9223372036854775807)=true:=decide_eq_true c36
        try (have c36b1s:=c36b1;simp only [ByteArray.size_append,(show (⟨#[32,43,32]⟩:ByteArray).size=3 from rfl)] at c36b1s)
        try have c36b2:(9223372036854775807<(t250++(⟨#[32,43,32]⟩:ByteArray)).size+t251.size)=False:=eq_false (Nat.not_lt.2 c36)
        try (have c36b2s:=c36b2;simp only [ByteArray.size_append,(show (⟨#[32,43,32]⟩:ByteArray).size=3 from rfl)] at c36b2s)
        by_cases c37:((t250++(⟨#[32,43,32]⟩:ByteArray))++t251).size+3≤9223372036854775807
        ·rw [if_pos c37] at H
         have c37b0:=eq_true c37
         have c37b1:decide (((t250++(⟨#[32,43,32]⟩:ByteArray))++t251).size+3≤9223372036854775807)=true:=decide_eq_true c37
         try (have c37b1s:=c37b1;simp only [ByteArray.size_append,(show (⟨#[32,43,32]⟩:ByteArray).size=3 from rfl)] at c37b1s)
         try have c37b2:(9223372036854775807<((t250++(⟨#[32,43,32]⟩:ByteArray))++t251).size+3)=False:=eq_false (Nat.not_lt.2 c37)
         try (have c37b2s:=c37b2;simp only [ByteArray.size_append,(show (⟨#[32,43,32]⟩:ByteArray).size=3 from rfl)] at c37b2s)
         replace H:=Option.bind_eq_some_iff.mp H
         obtain ⟨t252,A380,H⟩:=H
         try dsimp only at H
         have A38:=Aside0.mk A380
         clear A380
         by_cases c39:(((t250++(⟨#[32,43,32]⟩:ByteArray))++t251)++(⟨#[32,61,32]⟩:ByteArray)).size+t252.size≤9223372036854775807
         ·rw [if_pos c39] at H
          have c39b0:=eq_true c39
          have c39b1:decide ((((t250++(⟨#[32,43,32]⟩:ByteArray))++t251)++(⟨#[32,61,32]⟩:ByteArray)).size+t252.size≤9223372036854775807)=true:=decide_eq_true c39
          try (have c39b1s:=c39b1;simp only [ByteArray.size_append,(show (⟨#[32,43,32]⟩:ByteArray).size=3 from rfl),(show (⟨#[32,61,32]⟩:ByteArray).size=3 from rfl)] at c39b1s)
          try have c39b2:(9223372036854775807<(((t250++(⟨#[32,43,32]⟩:ByteArray))++t251)++(⟨#[32,61,32]⟩:ByteArray)).size+t252.size)=False:=eq_false (Nat.not_lt.2 c39)
          try (have c39b2s:=c39b2;simp only [ByteArray.size_append,(show (⟨#[32,43,32]⟩:ByteArray).size=3 from rfl),(show (⟨#[32,61,32]⟩:ByteArray).size=3 from rfl)] at c39b2s)
          obtain rfl:=Option.some.inj H
          go_enter Tryz.func13,Tryz.ntmps13
          try go_wp2_with (first|((with_reducible refine gate_dst (N:=1) rfl ?_);refine box_event ?hg (N:=1) ?hd (cs:=#[.int .i64 a0_0,.slice A0_1 l0_1.length c0_1,.slice A0_2 l0_2.length c0_2,.slice A0_3 l0_3.length c0_3]) (t:=24) ?hr ?_;(case hd=>rfl);(case hg=>rfl);(case hr=>first|(go_simp;done)|(go_simp;rfl));intro gb248 hg w40 hbox hb;have n0_:=Aside0.mk (below_step qz1 hb);have n1_:=Aside0.mk (hbox);have n2_:=Aside0.mk ((by rw [hg];exact (below_size qz1):w.heap.size≤gb248));have n3_:=Aside0.mk ((by rw [hg];exact (below_size qz1):w.heap.size≤gb248));clear HB;have HB:=n0_;have BK248:=n1_;have GW248:=n2_;have GE248:=n3_;clear n0_ n1_ n2_ n3_ hb hbox hg;have hcz41_0:w40.cell? ⟨gb248,0,none⟩=some (.int .i64 a0_0):=(blk_cell BK248.out 0).trans rfl;have hcz41_1:w40.cell? ⟨gb248,1,none⟩=some (.slice A0_1 l0_1.length c0_1):=(blk_cell BK248.out 1).trans rfl;have hcz41_2:w40.cell? ⟨gb248,2,none⟩=some (.slice A0_2 l0_2.length c0_2):=(blk_cell BK248.out 2).trans rfl;have hcz41_3:w40.cell? ⟨gb248,3,none⟩=some (.slice A0_3 l0_3.length c0_3):=(blk_cell BK248.out 3).trans rfl;have hfz41_0:=blk_frozen BK248.out 0;have hfz41_1:=blk_frozen BK248.out 1;have hfz41_2:=blk_frozen BK248.out 2;have hfz41_3:=blk_frozen BK248.out 3)|((with_reducible refine gate_callee (f:=16) rfl ?_);refine goesL_ (some 6) rfl rfl Tryz.func16 (by kernel_rfl) rfl #[.agg #[.int .i64 a0_0,.slice A0_1 l0_1.length c0_1,.slice A0_2 l0_2.length c0_2,.slice A0_3 l0_3.length c0_3]] rfl qz2 ?_;(with_reducible refine (impl_GoalOk.calls a0_0 _ _ l0_1 _ _ l0_2 _ _ l0_3 true _ ?side1 ?side2 ?side3 ?side4 ?side5 ?side6 A2.out).mono ?_);(case side1=>exact qz6);(case side2=>exact HC0_1.out);(case side3=>exact qz10);(case side4=>exact HC0_2.out);(case side5=>exact qz22);(case side6=>exact HC0_3.out);rintro e w42 ⟨rfl,hb⟩;refine ⟨_,rfl,?_⟩;have n0_:=Aside0.mk (blk_below (g:=gb248) (o:=.cells #[.int .i64 a0_0,.slice A0_1 l0_1.length c0_1,.slice A0_2 l0_2.length c0_2,.slice A0_3 l0_3.length c0_3] 24 (0,0)) qz31 hb);have n1_:=Aside0.mk (below_step qz8 hb);clear BK248 HB;have BK248:=n0_;have HB:=n1_;clear n0_ n1_;(try clear hb);(try clear hb2);(try clear hk);(try clear hi)))
          have n0_:=Aside0.mk (blk_drew BK248.out)
          have n1_:=Aside0.mk (below_drew1 HB.out)
          clear BK248 HB
          have BK248:=n0_
          have HB:=n1_
          clear n0_ n1_
          refine start_ (n:=8) (S:=fun w'=>w'.cell? ⟨gb248,0,none⟩=some (.int .i64 a0_0)∧w'.cell? ⟨gb248,1,none⟩=some (.slice A0_1 l0_1.length c0_1)∧w'.cell? ⟨gb248,2,none⟩=some (.slice A0_2 l0_2.length c0_2)∧w'.cell? ⟨gb248,3,none⟩=some (.slice A0_3 l0_3.length c0_3)) (ds:=[]) #[false,false,false,false,false,false,false,false] (by kernel_rfl) rfl rfl ⟨(blk_cell BK248.out 0).trans rfl,(blk_cell BK248.out 1).trans rfl,(blk_cell BK248.out 2).trans rfl,(blk_cell BK248.out 3).trans rfl⟩ (fun hHeld=>?_);refine with_tabW impl_GoalText.tab3 impl_GoalText.bits3 (fun HT_ HW_=>?_)
          generalize w42.drew=w43 at BK248 HB hHeld ⊢
          refine pure_ (i:=0) (N:=some 8) (v:=?_) (a':=?_) #[true,false,false,false,false,false,false,false] rfl rfl (any_of HT_.out (by kernel_rfl)) (fun _ _ _ h=>h) (Or.inl ⟨by rfl,?_⟩) ?_ ?_
          rotate_left
          ·intro w'
           go_simp
           with_reducible rfl
          rotate_left
          ·simp only [Act.put,List.setIfInBounds_toArray,List.set_cons_zero,List.set_cons_succ,i64_w,i32_w]
           rfl
          refine pure_ (i:=3) (N:=some 11) (v:=?_) (a':=?_) #[true,false,false,true,false,false,false,false] rfl rfl (any_of HT_.out (by kernel_rfl)) (fun _ _ _ h=>h) (Or.inl ⟨by rfl,?_⟩) ?_ ?_
          rotate_left
          ·intro w'
           go_simp
           with_reducible rfl
          rotate_left
          ·simp only [Act.put,List.setIfInBounds_toArray,List.set_cons_zero,List.set_cons_succ,i64_w,i32_w]
           rfl
          refine take_ (i:=1) (N:=some 9) (v:=?_) (a':=?_) #[true,true,false,true,false,false,false,false] rfl rfl (take_ofW HT_.out HW_.out (by kernel_rfl)) (fun _ _ _ h=>h) (Or.inl ⟨by rfl,?_⟩) hHeld ?_ ?_
          rotate_left
          ·rintro w' ⟨s0,s1,s2,s3⟩
           go_simp
           with_reducible rfl
          rotate_left
          ·simp only [Act.put,List.setIfInBounds_toArray,List.set_cons_zero,List.set_cons_succ,i64_w,i32_w]
           rfl
          refine take_ (i:=4) (N:=some 12) (v:=?_) (a':=?_) #[true,true,false,true,true,false,false,false] rfl rfl (take_ofW HT_.out HW_.out (by kernel_rfl)) (fun _ _ _ h=>h) (Or.inl ⟨by rfl,?_⟩) hHeld ?_ ?_
          rotate_left
          ·rintro w' ⟨s0,s1,s2,s3⟩
           go_simp
           with_reducible rfl
          rotate_left
          ·simp only [Act.put,List.setIfInBounds_toArray,List.set_cons_zero,List.set_cons_succ,i64_w,i32_w]
           rfl
          refine one_ (i:=2) (N:=some 10) #[true,true,true,true,true,false,false,false] rfl rfl (one_of HT_.out (by kernel_rfl)) (by decide) (fun K hK=>?_)
          refine goes_ Tryz.func35 (by kernel_rfl) rfl #[.slice A0_1 l0_1.length c0_1] (by rfl) rfl rfl qz2 ?_
          with_reducible refine (impl_TrmText.calls (hT_:=HQT_.out.below qz8) k _ _ l0_1 t250 _ ?side1 ?side2 A4.out).mono ?_
          (case side1=>exact qz6)
          (case side2=>exact HC0_1.out)
          rintro e w44 ⟨rfl,hb⟩
          refine ⟨_,rfl,?_⟩
          have n0_:=Aside0.mk (blk_below (g:=gb248) (o:=.cells #[.int .i64 a0_0,.slice A0_1 l0_1.length c0_1,.slice A0_2 l0_2.length c0_2,.slice A0_3 l0_3.length c0_3] 24 (0,0)) qz31 hb)
          have n1_:=Aside0.mk (below_step qz8 hb)
          clear BK248 HB
          have BK248:=n0_
          have HB:=n1_
          clear n0_ n1_
          (try clear hb)
          (try clear hb2)
          (try clear hk)
          (try clear hi)
          refine hK.out _ _ ⟨(blk_cell BK248.out 0).trans rfl,(blk_cell BK248.out 1).trans rfl,(blk_cell BK248.out 2).trans rfl,(blk_cell BK248.out 3).trans rfl⟩ (fun hHeld=>?_)
          clear hK K
          refine norm_ (a':=?_) ?_ ?_
          rotate_left
          ·show Act.put _ (some 10) _=_
           simp only [Act.put,List.setIfInBounds_toArray,List.set_cons_zero,List.set_cons_succ,i64_w,i32_w]
           rfl
          refine one_ (i:=5) (N:=some 13) #[true,true,true,true,true,true,false,false] rfl rfl (one_of HT_.out (by kernel_rfl)) (by decide) (fun K hK=>?_)
          refine goes_ Tryz.func35 (by kernel_rfl) rfl #[.slice A0_2 l0_2.length c0_2] (by rfl) rfl rfl qz2 ?_
          with_reducible refine (impl_TrmText.calls (hT_:=HQT_.out.below qz8) k _ _ l0_2 t251 _ ?side1 ?side2 A5.out).mono ?_
          (case side1=>exact qz10)
          (case side2=>exact HC0_2.out)
          rintro e w45 ⟨rfl,hb⟩
          refine ⟨_,rfl,?_⟩
          have n0_:=Aside0.mk (blk_below (g:=gb248) (o:=.cells #[.int .i64 a0_0,.slice A0_1 l0_1.length c0_1,.slice A0_2 l0_2.length c0_2,.slice A0_3 l0_3.length c0_3] 24 (0,0)) qz31 hb)
          have n1_:=Aside0.mk (below_step qz8 hb)
          clear BK248 HB
          have BK248:=n0_
          have HB:=n1_
          clear n0_ n1_
          (try clear hb)
          (try clear hb2)
          (try clear hk)
          (try clear hi)
          refine hK.out _ _ ⟨(blk_cell BK248.out 0).trans rfl,(blk_cell BK248.out 1).trans rfl,(blk_cell BK248.out 2).trans rfl,(blk_cell BK248.out 3).trans rfl⟩ (fun hHeld=>?_)
          clear hK K
          refine norm_ (a':=?_) ?_ ?_
          rotate_left
          ·show Act.put _ (some 13) _=_
           simp only [Act.put,List.setIfInBounds_toArray,List.set_cons_zero,List.set_cons_succ,i64_w,i32_w]
           rfl
          refine pure_ (i:=6) (N:=some 3) (v:=?_) (a':=?_) #[true,true,true,true,true,true,true,false] rfl rfl (any_of HT_.out (by kernel_rfl)) (fun _ _ _ h=>h) (Or.inl ⟨by rfl,?_⟩) ?_ ?_
          rotate_left
          ·intro w'
           go_simp
           with_reducible rfl
          rotate_left
          ·simp only [Act.put,List.setIfInBounds_toArray,List.set_cons_zero,List.set_cons_succ,i64_w,i32_w]
           rfl
          refine pure_ (i:=7) (N:=some 4) (v:=?_) (a':=?_) #[true,true,true,true,true,true,true,true] rfl rfl (any_of HT_.out (by kernel_rfl)) (fun _ _ _ h=>h) (Or.inl ⟨by rfl,?_⟩) ?_ ?_
          rotate_left
          ·intro w'
           go_simp
           with_reducible rfl
          rotate_left
          ·simp only [Act.put,List.setIfInBounds_toArray,List.set_cons_zero,List.set_cons_succ,i64_w,i32_w]
           rfl
          refine done_ (done_of HT_.out (by kernel_rfl)) ?_
          have hcz46_0:w45.cell? ⟨gb248,0,none⟩=some (.int .i64 a0_0):=(blk_cell BK248.out 0).trans rfl
          have hcz46_1:w45.cell? ⟨gb248,1,none⟩=some (.slice A0_1 l0_1.length c0_1):=(blk_cell BK248.out 1).trans rfl
          have hcz46_2:w45.cell? ⟨gb248,2,none⟩=some (.slice A0_2 l0_2.length c0_2):=(blk_cell BK248.out 2).trans rfl
          have hcz46_3:w45.cell? ⟨gb248,3,none⟩=some (.slice A0_3 l0_3.length c0_3):=(blk_cell BK248.out 3).trans rfl
          have hfz46_0:=blk_frozen BK248.out 0
          have hfz46_1:=blk_frozen BK248.out 1
          have hfz46_2:=blk_frozen BK248.out 2
          have hfz46_3:=blk_frozen BK248.out 3
          try go_wp2_with (first|((with_reducible refine gate_callee (f:=35) rfl ?_);refine goesL_ (some 39) rfl rfl Tryz.func35 (by kernel_rfl) rfl #[.slice A0_3 l0_3.length c0_3] rfl qz2 ?_;(with_reducible refine (impl_TrmText.calls (hT_:=HQT_.out.below qz8) k _ _ l0_3 t252 _ ?side1 ?side2 A38.out).mono ?_);(case side1=>exact qz22);(case side2=>exact HC0_3.out);rintro e w47 ⟨rfl,hb⟩;refine ⟨_,rfl,?_⟩;have n0_:=Aside0.mk (blk_below (g:=gb248) (o:=.cells #[.int .i64 a0_0,.slice A0_1 l0_1.length c0_1,.slice A0_2 l0_2.length c0_2,.slice A0_3 l0_3.length c0_3] 24 (0,0)) qz31 hb);have n1_:=Aside0.mk (below_step qz8 hb);clear BK248 HB;have BK248:=n0_;have HB:=n1_;clear n0_ n1_;(try clear hb);(try clear hb2);(try clear hk);(try clear hi)))
          go_ret
          exact ⟨qz4,qz8⟩
         ·rw [if_neg c39] at H
          exact absurd H (by simp)
        ·rw [if_neg c37] at H
         exact absurd H (by simp)
       ·rw [if_neg c36] at H
        exact absurd H (by simp)
      ·rw [if_neg c35] at H
       exact absurd H (by simp)
     ·rw [if_neg c34] at H
      have c34b0:(a0_0 == 5)=false:=beq_eq_false_iff_ne.mpr c34
      have c34b1:(a0_0 != 5)=true:=bne_iff_ne.mpr c34
      obtain rfl:=Option.some.inj H
      go_enter Tryz.func13,Tryz.ntmps13
      try go_wp2_with (first|((with_reducible refine gate_dst (N:=1) rfl ?_);refine box_event ?hg (N:=1) ?hd (cs:=#[.int .i64 a0_0,.slice A0_1 l0_1.length c0_1,.slice A0_2 l0_2.length c0_2,.slice A0_3 l0_3.length c0_3]) (t:=24) ?hr ?_;(case hd=>rfl);(case hg=>rfl);(case hr=>first|(go_simp;done)|(go_simp;rfl));intro gb248 hg w48 hbox hb;have n0_:=Aside0.mk (below_step qz1 hb);have n1_:=Aside0.mk (hbox);have n2_:=Aside0.mk ((by rw [hg];exact (below_size qz1):w.heap.size≤gb248));have n3_:=Aside0.mk ((by rw [hg];exact (below_size qz1):w.heap.size≤gb248));clear HB;have HB:=n0_;have BK248:=n1_;have GW248:=n2_;have GE248:=n3_;clear n0_ n1_ n2_ n3_ hb hbox hg;have hcz49_0:w48.cell? ⟨gb248,0,none⟩=some (.int .i64 a0_0):=(blk_cell BK248.out 0).trans rfl;have hcz49_1:w48.cell? ⟨gb248,1,none⟩=some (.slice A0_1 l0_1.length c0_1):=(blk_cell BK248.out 1).trans rfl;have hcz49_2:w48.cell? ⟨gb248,2,none⟩=some (.slice A0_2 l0_2.length c0_2):=(blk_cell BK248.out 2).trans rfl;have hcz49_3:w48.cell? ⟨gb248,3,none⟩=some (.slice A0_3 l0_3.length c0_3):=(blk_cell BK248.out 3).trans rfl;have hfz49_0:=blk_frozen BK248.out 0;have hfz49_1:=blk_frozen BK248.out 1;have hfz49_2:=blk_frozen BK248.out 2;have hfz49_3:=blk_frozen BK248.out 3)|((with_reducible refine gate_callee (f:=16) rfl ?_);refine goesL_ (some 6) rfl rfl Tryz.func16 (by kernel_rfl) rfl #[.agg #[.int .i64 a0_0,.slice A0_1 l0_1.length c0_1,.slice A0_2 l0_2.length c0_2,.slice A0_3 l0_3.length c0_3]] rfl qz2 ?_;(with_reducible refine (impl_GoalOk.calls a0_0 _ _ l0_1 _ _ l0_2 _ _ l0_3 true _ ?side1 ?side2 ?side3 ?side4 ?side5 ?side6 A2.out).mono ?_);(case side1=>exact qz6);(case side2=>exact HC0_1.out);(case side3=>exact qz10);(case side4=>exact HC0_2.out);(case side5=>exact qz22);(case side6=>exact HC0_3.out);rintro e w50 ⟨rfl,hb⟩;refine ⟨_,rfl,?_⟩;have n0_:=Aside0.mk (blk_below (g:=gb248) (o:=.cells #[.int .i64 a0_0,.slice A0_1 l0_1.length c0_1,.slice A0_2 l0_2.length c0_2,.slice A0_3 l0_3.length c0_3] 24 (0,0)) qz31 hb);have n1_:=Aside0.mk (below_step qz8 hb);clear BK248 HB;have BK248:=n0_;have HB:=n1_;clear n0_ n1_;(try clear hb);(try clear hb2);(try clear hk);(try clear hi)))
      have n0_:=Aside0.mk (blk_drew BK248.out)
      have n1_:=Aside0.mk (below_drew1 HB.out)
      clear BK248 HB
      have BK248:=n0_
      have HB:=n1_
      clear n0_ n1_
      refine start_ (n:=8) (S:=fun w'=>w'.cell? ⟨gb248,0,none⟩=some (.int .i64 a0_0)∧w'.cell? ⟨gb248,1,none⟩=some (.slice A0_1 l0_1.length c0_1)∧w'.cell? ⟨gb248,2,none⟩=some (.slice A0_2 l0_2.length c0_2)∧w'.cell? ⟨gb248,3,none⟩=some (.slice A0_3 l0_3.length c0_3)) (ds:=[]) #[false,false,false,false,false,false,false,false] (by kernel_rfl) rfl rfl ⟨(blk_cell BK248.out 0).trans rfl,(blk_cell BK248.out 1).trans rfl,(blk_cell BK248.out 2).trans rfl,(blk_cell BK248.out 3).trans rfl⟩ (fun hHeld=>?_);refine with_tabW impl_GoalText.tab3 impl_GoalText.bits3 (fun HT_ HW_=>?_)
      generalize w50.drew=w51 at BK248 HB hHeld ⊢
      refine pure_ (i:=0) (N:=some 8) (v:=?_) (a':=?_) #[true,false,false,false,false,false,false,false] rfl rfl (any_of HT_.out (by kernel_rfl)) (fun _ _ _ h=>h) (Or.inl ⟨by rfl,?_⟩) ?_ ?_
      rotate_left
      ·intro w'
       go_simp
       with_reducible rfl
      rotate_left
      ·simp only [Act.put,List.setIfInBounds_toArray,List.set_cons_zero,List.set_cons_succ,i64_w,i32_w]
       rfl
      refine pure_ (i:=3) (N:=some 11) (v:=?_) (a':=?_) #[true,false,false,true,false,false,false,false] rfl rfl (any_of HT_.out (by kernel_rfl)) (fun _ _ _ h=>h) (Or.inl ⟨by rfl,?_⟩) ?_ ?_
      rotate_left
      ·intro w'
       go_simp
       with_reducible rfl
      rotate_left
      ·simp only [Act.put,List.setIfInBounds_toArray,List.set_cons_zero,List.set_cons_succ,i64_w,i32_w]
       rfl
      refine take_ (i:=1) (N:=some 9) (v:=?_) (a':=?_) #[true,true,false,true,false,false,false,false] rfl rfl (take_ofW HT_.out HW_.out (by kernel_rfl)) (fun _ _ _ h=>h) (Or.inl ⟨by rfl,?_⟩) hHeld ?_ ?_
      rotate_left
      ·rintro w' ⟨s0,s1,s2,s3⟩
       go_simp
       with_reducible rfl
      rotate_left
      ·simp only [Act.put,List.setIfInBounds_toArray,List.set_cons_zero,List.set_cons_succ,i64_w,i32_w]
       rfl
      refine take_ (i:=4) (N:=some 12) (v:=?_) (a':=?_) #[true,true,false,true,true,false,false,false] rfl rfl (take_ofW HT_.out HW_.out (by kernel_rfl)) (fun _ _ _ h=>h) (Or.inl ⟨by rfl,?_⟩) hHeld ?_ ?_
      rotate_left
      ·rintro w' ⟨s0,s1,s2,s3⟩
       go_simp
       with_reducible rfl
      rotate_left
      ·simp only [Act.put,List.setIfInBounds_toArray,List.set_cons_zero,List.set_cons_succ,i64_w,i32_w]
       rfl
      refine one_ (i:=2) (N:=some 10) #[true,true,true,true,true,false,false,false] rfl rfl (one_of HT_.out (by kernel_rfl)) (by decide) (fun K hK=>?_)
      refine goes_ Tryz.func35 (by kernel_rfl) rfl #[.slice A0_1 l0_1.length c0_1] (by rfl) rfl rfl qz2 ?_
      with_reducible refine (impl_TrmText.calls (hT_:=HQT_.out.below qz8) k _ _ l0_1 t250 _ ?side1 ?side2 A4.out).mono ?_
      (case side1=>exact qz6)
      (case side2=>exact HC0_1.out)
      rintro e w52 ⟨rfl,hb⟩
      refine ⟨_,rfl,?_⟩
      have n0_:=Aside0.mk (blk_below (g:=gb248) (o:=.cells #[.int .i64 a0_0,.slice A0_1 l0_1.length c0_1,.slice A0_2 l0_2.length c0_2,.slice A0_3 l0_3.length c0_3] 24 (0,0)) qz31 hb)
      have n1_:=Aside0.mk (below_step qz8 hb)
      clear BK248 HB
      have BK248:=n0_
      have HB:=n1_
      clear n0_ n1_
      (try clear hb)
      (try clear hb2)
      (try clear hk)
      (try clear hi)
      refine hK.out _ _ ⟨(blk_cell BK248.out 0).trans rfl,(blk_cell BK248.out 1).trans rfl,(blk_cell BK248.out 2).trans rfl,(blk_cell BK248.out 3).trans rfl⟩ (fun hHeld=>?_)
      clear hK K
      refine norm_ (a':=?_) ?_ ?_
      rotate_left
      ·show Act.put _ (some 10) _=_
       simp only [Act.put,List.setIfInBounds_toArray,List.set_cons_zero,List.set_cons_succ,i64_w,i32_w]
       rfl
      refine one_ (i:=5) (N:=some 13) #[true,true,true,true,true,true,false,false] rfl rfl (one_of HT_.out (by kernel_rfl)) (by decide) (fun K hK=>?_)
      refine goes_ Tryz.func35 (by kernel_rfl) rfl #[.slice A0_2 l0_2.length c0_2] (by rfl) rfl rfl qz2 ?_
      with_reducible refine (impl_TrmText.calls (hT_:=HQT_.out.below qz8) k _ _ l0_2 t251 _ ?side1 ?side2 A5.out).mono ?_
      (case side1=>exact qz10)
      (case side2=>exact HC0_2.out)
      rintro e w53 ⟨rfl,hb⟩
      refine ⟨_,rfl,?_⟩
      have n0_:=Aside0.mk (blk_below (g:=gb248) (o:=.cells #[.int .i64 a0_0,.slice A0_1 l0_1.length c0_1,.slice A0_2 l0_2.length c0_2,.slice A0_3 l0_3.length c0_3] 24 (0,0)) qz31 hb)
      have n1_:=Aside0.mk (below_step qz8 hb)
      clear BK248 HB
      have BK248:=n0_
      have HB:=n1_
      clear n0_ n1_
      (try clear hb)
      (try clear hb2)
      (try clear hk)
      (try clear hi)
      refine hK.out _ _ ⟨(blk_cell BK248.out 0).trans rfl,(blk_cell BK248.out 1).trans rfl,(blk_cell BK248.out 2).trans rfl,(blk_cell BK248.out 3).trans rfl⟩ (fun hHeld=>?_)
      clear hK K
      refine norm_ (a':=?_) ?_ ?_
      rotate_left
      ·show Act.put _ (some 13) _=_
       simp only [Act.put,List.setIfInBounds_toArray,List.set_cons_zero,List.set_cons_succ,i64_w,i32_w]
       rfl
      refine pure_ (i:=6) (N:=some 3) (v:=?_) (a':=?_) #[true,true,true,true,true,true,true,false] rfl rfl (any_of HT_.out (by kernel_rfl)) (fun _ _ _ h=>h) (Or.inl ⟨by rfl,?_⟩) ?_ ?_
      rotate_left
      ·intro w'
       go_simp
       with_reducible rfl
      rotate_left
      ·simp only [Act.put,List.setIfInBounds_toArray,List.set_cons_zero,List.set_cons_succ,i64_w,i32_w]
       rfl
      refine pure_ (i:=7) (N:=some 4) (v:=?_) (a':=?_) #[true,true,true,true,true,true,true,true] rfl rfl (any_of HT_.out (by kernel_rfl)) (fun _ _ _ h=>h) (Or.inl ⟨by rfl,?_⟩) ?_ ?_
      rotate_left
      ·intro w'
       go_simp
       with_reducible rfl
      rotate_left
      ·simp only [Act.put,List.setIfInBounds_toArray,List.set_cons_zero,List.set_cons_succ,i64_w,i32_w]
       rfl
      refine done_ (done_of HT_.out (by kernel_rfl)) ?_
      have hcz54_0:w53.cell? ⟨gb248,0,none⟩=some (.int .i64 a0_0):=(blk_cell BK248.out 0).trans rfl
      have hcz54_1:w53.cell? ⟨gb248,1,none⟩=some (.slice A0_1 l0_1.length c0_1):=(blk_cell BK248.out 1).trans rfl
      have hcz54_2:w53.cell? ⟨gb248,2,none⟩=some (.slice A0_2 l0_2.length c0_2):=(blk_cell BK248.out 2).trans rfl
      have hcz54_3:w53.cell? ⟨gb248,3,none⟩=some (.slice A0_3 l0_3.length c0_3):=(blk_cell BK248.out 3).trans rfl
      have hfz54_0:=blk_frozen BK248.out 0
      have hfz54_1:=blk_frozen BK248.out 1
      have hfz54_2:=blk_frozen BK248.out 2
      have hfz54_3:=blk_frozen BK248.out 3
      try go_wp2
      go_ret
      exact ⟨qz4,qz8⟩
 ·replace c3:=Bool.eq_false_iff.mpr c3
  subst c3
  have H1:(some (⟨#[]⟩:ByteArray))=some r:=qz23
  clear H
  have H:=H1
  clear H1
  obtain rfl:=Option.some.inj H
  go_enter Tryz.func13,Tryz.ntmps13
  go_wp2_with (first|((with_reducible refine gate_dst (N:=1) rfl ?_);refine box_event ?hg (N:=1) ?hd (cs:=#[.int .i64 a0_0,.slice A0_1 l0_1.length c0_1,.slice A0_2 l0_2.length c0_2,.slice A0_3 l0_3.length c0_3]) (t:=24) ?hr ?_;(case hd=>rfl);(case hg=>rfl);(case hr=>first|(go_simp;done)|(go_simp;rfl));intro gb248 hg w55 hbox hb;have n0_:=Aside0.mk (below_step qz1 hb);have n1_:=Aside0.mk (hbox);have n2_:=Aside0.mk ((by rw [hg];exact (below_size qz1):w.heap.size≤gb248));have n3_:=Aside0.mk ((by rw [hg];exact (below_size qz1):w.heap.size≤gb248));clear HB;have HB:=n0_;have BK248:=n1_;have GW248:=n2_;have GE248:=n3_;clear n0_ n1_ n2_ n3_ hb hbox hg;have hcz56_0:w55.cell? ⟨gb248,0,none⟩=some (.int .i64 a0_0):=(blk_cell BK248.out 0).trans rfl;have hcz56_1:w55.cell? ⟨gb248,1,none⟩=some (.slice A0_1 l0_1.length c0_1):=(blk_cell BK248.out 1).trans rfl;have hcz56_2:w55.cell? ⟨gb248,2,none⟩=some (.slice A0_2 l0_2.length c0_2):=(blk_cell BK248.out 2).trans rfl;have hcz56_3:w55.cell? ⟨gb248,3,none⟩=some (.slice A0_3 l0_3.length c0_3):=(blk_cell BK248.out 3).trans rfl;have hfz56_0:=blk_frozen BK248.out 0;have hfz56_1:=blk_frozen BK248.out 1;have hfz56_2:=blk_frozen BK248.out 2;have hfz56_3:=blk_frozen BK248.out 3)|((with_reducible refine gate_callee (f:=16) rfl ?_);refine goesL_ (some 6) rfl rfl Tryz.func16 (by kernel_rfl) rfl #[.agg #[.int .i64 a0_0,.slice A0_1 l0_1.length c0_1,.slice A0_2 l0_2.length c0_2,.slice A0_3 l0_3.length c0_3]] rfl qz2 ?_;(with_reducible refine (impl_GoalOk.calls a0_0 _ _ l0_1 _ _ l0_2 _ _ l0_3 false _ ?side1 ?side2 ?side3 ?side4 ?side5 ?side6 A2.out).mono ?_);(case side1=>exact qz6);(case side2=>exact HC0_1.out);(case side3=>exact qz10);(case side4=>exact HC0_2.out);(case side5=>exact qz22);(case side6=>exact HC0_3.out);rintro e w57 ⟨rfl,hb⟩;refine ⟨_,rfl,?_⟩;have n0_:=Aside0.mk (blk_below (g:=gb248) (o:=.cells #[.int .i64 a0_0,.slice A0_1 l0_1.length c0_1,.slice A0_2 l0_2.length c0_2,.slice A0_3 l0_3.length c0_3] 24 (0,0)) qz31 hb);have n1_:=Aside0.mk (below_step qz8 hb);clear BK248 HB;have BK248:=n0_;have HB:=n1_;clear n0_ n1_;(try clear hb);(try clear hb2);(try clear hk);(try clear hi)))
  go_ret
  exact ⟨qz4,qz8⟩

end Go.Proofs.YtlhniagacegbeaaGreatDoor.P
