/- Contracts of functions of the program: each as a Lean function, and that its call does what that says; printed by cprint.py (this session) over print.py of the kit. Conditions: the hypotheses of each theorem. -/
import Derived.Test.YtlhniagacegbeaaDoorVZ
import Derived.Test.YtlhniagacegbeaaDoorP0
import Derived.Test.YtlhniagacegbeaaDoorP3
import Derived.Test.YtlhniagacegbeaaDoorP4
namespace Go.Proofs.YtlhniagacegbeaaDoor.P
open Go.RowKit Go.Proofs.YtlhniagacegbeaaDoorW.PrintWords Go.Proofs.YtlhniagacegbeaaDoorW.PrintLast Go.Proofs.YtlhniagacegbeaaDoorW.PrintMore
attribute [local go_sem] max2_int min2_int max_two min_two max_three min_three max_four min_four   -- for this text's walks alone
set_option linter.unusedVariables false
set_option linter.unusedSimpArgs false

/-! ### spec_GoalText: function 6 -/
def spec_GoalText.f (k:Nat) (a0_0:Int) (l0_1:List (S44)) (l0_2:List (S44)) (l0_3:List (S44)):Option (ByteArray):=(spec_GoalOk.f k a0_0 l0_1 l0_2 l0_3).bind fun t159=>(if t159=true then (if a0_0=2 then ((spec_TrmText.f k l0_1).bind fun t160=>(if t160.size+3≤9223372036854775807 then ((spec_TrmText.f k l0_2).bind fun t161=>(if (t160++(⟨#[32,61,32]⟩:ByteArray)).size+t161.size≤9223372036854775807 then (some ((t160++(⟨#[32,61,32]⟩:ByteArray))++t161)) else (none))) else (none))) else (if a0_0=3 then (some (⟨#[33]⟩:ByteArray)) else (if a0_0=4 then ((spec_TrmText.f k l0_1).bind fun t162=>(if t162.size+3≤9223372036854775807 then ((spec_TrmText.f k l0_2).bind fun t163=>(if (t162++(⟨#[32,60,32]⟩:ByteArray)).size+t163.size≤9223372036854775807 then (some ((t162++(⟨#[32,60,32]⟩:ByteArray))++t163)) else (none))) else (none))) else (if a0_0=5 then ((spec_TrmText.f k l0_1).bind fun t164=>(if t164.size+3≤9223372036854775807 then ((spec_TrmText.f k l0_2).bind fun t165=>(if (t164++(⟨#[32,43,32]⟩:ByteArray)).size+t165.size≤9223372036854775807 then (if ((t164++(⟨#[32,43,32]⟩:ByteArray))++t165).size+3≤9223372036854775807 then ((spec_TrmText.f k l0_3).bind fun t166=>(if (((t164++(⟨#[32,43,32]⟩:ByteArray))++t165)++(⟨#[32,61,32]⟩:ByteArray)).size+t166.size≤9223372036854775807 then (some ((((t164++(⟨#[32,43,32]⟩:ByteArray))++t165)++(⟨#[32,61,32]⟩:ByteArray))++t166)) else (none))) else (none)) else (none))) else (none))) else ((spec_TrmText.f k l0_1).bind fun t167=>(some t167)))))) else (some (⟨#[]⟩:ByteArray)))
def spec_GoalText.T5:Bool × List (List Nat × List Nat):=(true,[([],[]),([0],[0]),([1],[1]),([2],[2]),([],[]),([4],[4]),([5,2],[5]),([3,6],[3,6]),([7,6,0,1,2,3,4,5,6,7],[7])])
def spec_GoalText.B5:List Nat:=[0,1,3,7,0,16,55,127,255]
theorem spec_GoalText.tab5:rtab .any (opsOf Tryd.f6 5)=spec_GoalText.T5:=by kernel_rfl
theorem spec_GoalText.bits5:waitsOk spec_GoalText.T5.2 spec_GoalText.B5=true:=by kernel_rfl
def spec_GoalText.T9:Bool × List (List Nat × List Nat):=(true,[([],[]),([0],[0]),([1],[1]),([2],[2]),([],[]),([4],[4]),([5,2],[5]),([3,6],[3,6]),([7,6,0,1,2,3,4,5,6,7],[7])])
def spec_GoalText.B9:List Nat:=[0,1,3,7,0,16,55,127,255]
theorem spec_GoalText.tab9:rtab .any (opsOf Tryd.f6 9)=spec_GoalText.T9:=by kernel_rfl
theorem spec_GoalText.bits9:waitsOk spec_GoalText.T9.2 spec_GoalText.B9=true:=by kernel_rfl
def spec_GoalText.T11:Bool × List (List Nat × List Nat):=(true,[([],[]),([0],[0]),([1],[1]),([2],[2]),([],[]),([4],[4]),([5,2],[5]),([3,6],[3,6]),([7],[7]),([],[]),([9],[9]),([10,6],[10]),([8,11],[8,11]),([12,11,0,1,2,3,4,5,6,7,8,9,10,11,12],[12])])
def spec_GoalText.B11:List Nat:=[0,1,3,7,0,16,55,127,255,0,512,1655,4095,8191]
theorem spec_GoalText.tab11:rtab .any (opsOf Tryd.f6 11)=spec_GoalText.T11:=by kernel_rfl
theorem spec_GoalText.bits11:waitsOk spec_GoalText.T11.2 spec_GoalText.B11=true:=by kernel_rfl
set_option maxHeartbeats 8000000 in
set_option maxRecDepth 100000 in
theorem spec_GoalText.calls (k:Nat) (a0_0:Int) (A0_1:Option Addr) (c0_1:Nat) (l0_1:List (S44)) (A0_2:Option Addr) (c0_2:Nat) (l0_2:List (S44)) (A0_3:Option Addr) (c0_3:Nat) (l0_3:List (S44)) (r:ByteArray) (w:World) (hr0_1:Kd.C k44 w A0_1 l0_1.length l0_1) (hc0_1:l0_1.length≤c0_1) (hr0_2:Kd.C k44 w A0_2 l0_2.length l0_2) (hc0_2:l0_2.length≤c0_2) (hr0_3:Kd.C k44 w A0_3 l0_3.length l0_3) (hc0_3:l0_3.length≤c0_3) (h:spec_GoalText.f k a0_0 l0_1 l0_2 l0_3=some r) :
  Calls Tryd.prog 6 #[.agg #[.int .i64 a0_0,.slice A0_1 l0_1.length c0_1,.slice A0_2 l0_2.length c0_2,.slice A0_3 l0_3.length c0_3]] w fun e w'=>e = .returned (.string r)∧Below w.heap.size w w':=by
 have hu29:=Tryd.underlying29
 have HR0_1:=Aside0.mk hr0_1
 have HC0_1:=Aside0.mk hc0_1
 clear hr0_1 hc0_1
 have HR0_2:=Aside0.mk hr0_2
 have HC0_2:=Aside0.mk hc0_2
 clear hr0_2 hc0_2
 have HR0_3:=Aside0.mk hr0_3
 have HC0_3:=Aside0.mk hc0_3
 clear hr0_3 hc0_3
 have HB:=Aside0.mk (Below.refl w.heap.size w)
 have H:((spec_GoalOk.f k a0_0 l0_1 l0_2 l0_3).bind fun t159=>(if t159=true then (if a0_0=2 then ((spec_TrmText.f k l0_1).bind fun t160=>(if t160.size+3≤9223372036854775807 then ((spec_TrmText.f k l0_2).bind fun t161=>(if (t160++(⟨#[32,61,32]⟩:ByteArray)).size+t161.size≤9223372036854775807 then (some ((t160++(⟨#[32,61,32]⟩:ByteArray))++t161)) else (none))) else (none))) else (if a0_0=3 then (some (⟨#[33]⟩:ByteArray)) else (if a0_0=4 then ((spec_TrmText.f k l0_1).bind fun t162=>(if t162.size+3≤9223372036854775807 then ((spec_TrmText.f k l0_2).bind fun t163=>(if (t162++(⟨#[32,60,32]⟩:ByteArray)).size+t163.size≤9223372036854775807 then (some ((t162++(⟨#[32,60,32]⟩:ByteArray))++t163)) else (none))) else (none))) else (if a0_0=5 then ((spec_TrmText.f k l0_1).bind fun t164=>(if t164.size+3≤9223372036854775807 then ((spec_TrmText.f k l0_2).bind fun t165=>(if (t164++(⟨#[32,43,32]⟩:ByteArray)).size+t165.size≤9223372036854775807 then (if ((t164++(⟨#[32,43,32]⟩:ByteArray))++t165).size+3≤9223372036854775807 then ((spec_TrmText.f k l0_3).bind fun t166=>(if (((t164++(⟨#[32,43,32]⟩:ByteArray))++t165)++(⟨#[32,61,32]⟩:ByteArray)).size+t166.size≤9223372036854775807 then (some ((((t164++(⟨#[32,43,32]⟩:ByteArray))++t165)++(⟨#[32,61,32]⟩:ByteArray))++t166)) else (none))) else (none)) else (none))) else (none))) else ((spec_TrmText.f k l0_1).bind fun t167=>(some t167)))))) else (some (⟨#[]⟩:ByteArray))))=some r:=h
 clear h
 replace H:=Option.bind_eq_some_iff.mp H
 obtain ⟨t159,A20,H⟩:=H
 try dsimp only at H
 have A2:=Aside0.mk A20
 clear A20
 by_cases c3:t159=true
 ·subst c3
  have H1:(if a0_0=2 then ((spec_TrmText.f k l0_1).bind fun t160=>(if t160.size+3≤9223372036854775807 then ((spec_TrmText.f k l0_2).bind fun t161=>(if (t160++(⟨#[32,61,32]⟩:ByteArray)).size+t161.size≤9223372036854775807 then (some ((t160++(⟨#[32,61,32]⟩:ByteArray))++t161)) else (none))) else (none))) else (if a0_0=3 then (some (⟨#[33]⟩:ByteArray)) else (if a0_0=4 then ((spec_TrmText.f k l0_1).bind fun t162=>(if t162.size+3≤9223372036854775807 then ((spec_TrmText.f k l0_2).bind fun t163=>(if (t162++(⟨#[32,60,32]⟩:ByteArray)).size+t163.size≤9223372036854775807 then (some ((t162++(⟨#[32,60,32]⟩:ByteArray))++t163)) else (none))) else (none))) else (if a0_0=5 then ((spec_TrmText.f k l0_1).bind fun t164=>(if t164.size+3≤9223372036854775807 then ((spec_TrmText.f k l0_2).bind fun t165=>(if (t164++(⟨#[32,43,32]⟩:ByteArray)).size+t165.size≤9223372036854775807 then (if ((t164++(⟨#[32,43,32]⟩:ByteArray))++t165).size+3≤9223372036854775807 then ((spec_TrmText.f k l0_3).bind fun t166=>(if (((t164++(⟨#[32,43,32]⟩:ByteArray))++t165)++(⟨#[32,61,32]⟩:ByteArray)).size+t166.size≤9223372036854775807 then (some ((((t164++(⟨#[32,43,32]⟩:ByteArray))++t165)++(⟨#[32,61,32]⟩:ByteArray))++t166)) else (none))) else (none)) else (none))) else (none))) else ((spec_TrmText.f k l0_1).bind fun t167=>(some t167))))))=some r:=qz42
  clear H
  have H:=H1
  clear H1
  by_cases c4:a0_0=2
  ·rw [if_pos c4] at H
   have c4b0:(a0_0 == 2)=true:=beq_iff_eq.mpr c4
   have c4b1:(a0_0 != 2)=false:=bne_eq_false_iff_eq.mpr c4
   clear c4
   replace H:=Option.bind_eq_some_iff.mp H
   obtain ⟨t160,A50,H⟩:=H
   try dsimp only at H
   have A5:=Aside0.mk A50
   clear A50
   by_cases c6:t160.size+3≤9223372036854775807
   ·rw [if_pos c6] at H
    have c6b0:=eq_true c6
    have c6b1:decide (t160.size+3≤9223372036854775807)=true:=decide_eq_true c6
    try have c6b2:(9223372036854775807<t160.size+3)=False:=eq_false (Nat.not_lt.2 c6)
    replace H:=Option.bind_eq_some_iff.mp H
    obtain ⟨t161,A70,H⟩:=H
    try dsimp only at H
    have A7:=Aside0.mk A70
    clear A70
    by_cases c8:(t160++(⟨#[32,61,32]⟩:ByteArray)).size+t161.size≤9223372036854775807
    ·rw [if_pos c8] at H
     have c8b0:=eq_true c8
     have c8b1:decide ((t160++(⟨#[32,61,32]⟩:ByteArray)).size+t161.size≤9223372036854775807)=true:=decide_eq_true c8
     try (have c8b1s:=c8b1;simp only [ByteArray.size_append,(show (⟨#[32,61,32]⟩:ByteArray).size=3 from rfl)] at c8b1s)
     try have c8b2:(9223372036854775807<(t160++(⟨#[32,61,32]⟩:ByteArray)).size+t161.size)=False:=eq_false (Nat.not_lt.2 c8)
     try (have c8b2s:=c8b2;simp only [ByteArray.size_append,(show (⟨#[32,61,32]⟩:ByteArray).size=3 from rfl)] at c8b2s)
     obtain rfl:=Option.some.inj H
     go_enter Tryd.func6,Tryd.ntmps6
     try go_wp2_with (first|((with_reducible refine gate_dst (N:=1) rfl ?_);refine box_event ?hg (N:=1) ?hd (cs:=#[.int .i64 a0_0,.slice A0_1 l0_1.length c0_1,.slice A0_2 l0_2.length c0_2,.slice A0_3 l0_3.length c0_3]) (t:=29) ?hr ?_;(case hd=>rfl);(case hg=>rfl);(case hr=>first|(go_simp;done)|(go_simp;rfl));intro gb158 hg w9 hbox hb;have n0_:=Aside0.mk (below_step qz1 hb);have n1_:=Aside0.mk (hbox);have n2_:=Aside0.mk ((by rw [hg];exact (below_size qz1):w.heap.size≤gb158));have n3_:=Aside0.mk ((by rw [hg];exact (below_size qz1):w.heap.size≤gb158));clear HB;have HB:=n0_;have BK158:=n1_;have GW158:=n2_;have GE158:=n3_;clear n0_ n1_ n2_ n3_ hb hbox hg;have hcz10_0:w9.cell? ⟨gb158,0,none⟩=some (.int .i64 a0_0):=(blk_cell BK158.out 0).trans rfl;have hcz10_1:w9.cell? ⟨gb158,1,none⟩=some (.slice A0_1 l0_1.length c0_1):=(blk_cell BK158.out 1).trans rfl;have hcz10_2:w9.cell? ⟨gb158,2,none⟩=some (.slice A0_2 l0_2.length c0_2):=(blk_cell BK158.out 2).trans rfl;have hcz10_3:w9.cell? ⟨gb158,3,none⟩=some (.slice A0_3 l0_3.length c0_3):=(blk_cell BK158.out 3).trans rfl;have hfz10_0:=blk_frozen BK158.out 0;have hfz10_1:=blk_frozen BK158.out 1;have hfz10_2:=blk_frozen BK158.out 2;have hfz10_3:=blk_frozen BK158.out 3)|((with_reducible refine gate_callee (f:=18) rfl ?_);refine goesL_ (some 4) rfl rfl Tryd.func18 (by kernel_rfl) rfl #[.agg #[.int .i64 a0_0,.slice A0_1 l0_1.length c0_1,.slice A0_2 l0_2.length c0_2,.slice A0_3 l0_3.length c0_3]] rfl qz2 ?_;(with_reducible refine (spec_GoalOk.calls k a0_0 _ _ l0_1 _ _ l0_2 _ _ l0_3 true _ ?side1 ?side2 ?side3 ?side4 ?side5 ?side6 A2.out).mono ?_);(case side1=>exact qz3);(case side2=>exact HC0_1.out);(case side3=>exact qz5);(case side4=>exact HC0_2.out);(case side5=>exact qz8);(case side6=>exact HC0_3.out);rintro e w11 ⟨rfl,hb⟩;refine ⟨_,rfl,?_⟩;have n0_:=Aside0.mk (blk_below (g:=gb158) (o:=.cells #[.int .i64 a0_0,.slice A0_1 l0_1.length c0_1,.slice A0_2 l0_2.length c0_2,.slice A0_3 l0_3.length c0_3] 29 (0,0)) qz30 hb);have n1_:=Aside0.mk (below_step qz14 hb);clear BK158 HB;have BK158:=n0_;have HB:=n1_;clear n0_ n1_;(try clear hb);(try clear hb2);(try clear hk);(try clear hi);have hcz12_0:w11.cell? ⟨gb158,0,none⟩=some (.int .i64 a0_0):=(blk_cell BK158.out 0).trans rfl;have hcz12_1:w11.cell? ⟨gb158,1,none⟩=some (.slice A0_1 l0_1.length c0_1):=(blk_cell BK158.out 1).trans rfl;have hcz12_2:w11.cell? ⟨gb158,2,none⟩=some (.slice A0_2 l0_2.length c0_2):=(blk_cell BK158.out 2).trans rfl;have hcz12_3:w11.cell? ⟨gb158,3,none⟩=some (.slice A0_3 l0_3.length c0_3):=(blk_cell BK158.out 3).trans rfl;have hfz12_0:=blk_frozen BK158.out 0;have hfz12_1:=blk_frozen BK158.out 1;have hfz12_2:=blk_frozen BK158.out 2;have hfz12_3:=blk_frozen BK158.out 3))
     have n0_:=Aside0.mk (blk_drew BK158.out)
     have n1_:=Aside0.mk (below_drew1 HB.out)
     clear BK158 HB
     have BK158:=n0_
     have HB:=n1_
     clear n0_ n1_
     refine start_ (n:=9) (S:=fun w'=>w'.cell? ⟨gb158,0,none⟩=some (.int .i64 a0_0)∧w'.cell? ⟨gb158,1,none⟩=some (.slice A0_1 l0_1.length c0_1)∧w'.cell? ⟨gb158,2,none⟩=some (.slice A0_2 l0_2.length c0_2)∧w'.cell? ⟨gb158,3,none⟩=some (.slice A0_3 l0_3.length c0_3)) (ds:=[]) #[false,false,false,false,false,false,false,false,false] (by kernel_rfl) rfl rfl ⟨(blk_cell BK158.out 0).trans rfl,(blk_cell BK158.out 1).trans rfl,(blk_cell BK158.out 2).trans rfl,(blk_cell BK158.out 3).trans rfl⟩ (fun hHeld=>?_);refine with_tabW spec_GoalText.tab5 spec_GoalText.bits5 (fun HT_ HW_=>?_)
     generalize w11.drew=w13 at BK158 HB hHeld ⊢
     refine pure_ (i:=0) (N:=some 10) (v:=?_) (a':=?_) #[true,false,false,false,false,false,false,false,false] rfl rfl (any_of HT_.out (by kernel_rfl)) (fun _ _ _ h=>h) (Or.inl ⟨by rfl,?_⟩) ?_ ?_
     rotate_left
     ·intro w'
      go_simp
      with_reducible rfl
     rotate_left
     ·simp only [Act.put,List.setIfInBounds_toArray,List.set_cons_zero,List.set_cons_succ,i64_w,i32_w]
      rfl
     refine pure_ (i:=4) (N:=some 14) (v:=?_) (a':=?_) #[true,false,false,false,true,false,false,false,false] rfl rfl (any_of HT_.out (by kernel_rfl)) (fun _ _ _ h=>h) (Or.inl ⟨by rfl,?_⟩) ?_ ?_
     rotate_left
     ·intro w'
      go_simp
      with_reducible rfl
     rotate_left
     ·simp only [Act.put,List.setIfInBounds_toArray,List.set_cons_zero,List.set_cons_succ,i64_w,i32_w]
      rfl
     refine take_ (i:=1) (N:=some 11) (v:=?_) (a':=?_) #[true,true,false,false,true,false,false,false,false] rfl rfl (take_ofW HT_.out HW_.out (by kernel_rfl)) (fun _ _ _ h=>h) (Or.inl ⟨by rfl,?_⟩) hHeld ?_ ?_
     rotate_left
     ·rintro w' ⟨s0,s1,s2,s3⟩
      go_simp
      with_reducible rfl
     rotate_left
     ·simp only [Act.put,List.setIfInBounds_toArray,List.set_cons_zero,List.set_cons_succ,i64_w,i32_w]
      rfl
     refine take_ (i:=5) (N:=some 15) (v:=?_) (a':=?_) #[true,true,false,false,true,true,false,false,false] rfl rfl (take_ofW HT_.out HW_.out (by kernel_rfl)) (fun _ _ _ h=>h) (Or.inl ⟨by rfl,?_⟩) hHeld ?_ ?_
     rotate_left
     ·rintro w' ⟨s0,s1,s2,s3⟩
      go_simp
      with_reducible rfl
     rotate_left
     ·simp only [Act.put,List.setIfInBounds_toArray,List.set_cons_zero,List.set_cons_succ,i64_w,i32_w]
      rfl
     refine one_ (i:=2) (N:=some 12) #[true,true,true,false,true,true,false,false,false] rfl rfl (one_of HT_.out (by kernel_rfl)) (by decide) (fun K hK=>?_)
     refine goes_ Tryd.func19 (by kernel_rfl) rfl #[.slice A0_1 l0_1.length c0_1] (by rfl) rfl rfl qz2 ?_
     with_reducible refine (spec_TrmText.calls k _ _ l0_1 t160 _ ?side1 ?side2 A5.out).mono ?_
     (case side1=>exact qz3)
     (case side2=>exact HC0_1.out)
     rintro e w14 ⟨rfl,hb⟩
     refine ⟨_,rfl,?_⟩
     have n0_:=Aside0.mk (blk_below (g:=gb158) (o:=.cells #[.int .i64 a0_0,.slice A0_1 l0_1.length c0_1,.slice A0_2 l0_2.length c0_2,.slice A0_3 l0_3.length c0_3] 29 (0,0)) qz30 hb)
     have n1_:=Aside0.mk (below_step qz14 hb)
     clear BK158 HB
     have BK158:=n0_
     have HB:=n1_
     clear n0_ n1_
     (try clear hb)
     (try clear hb2)
     (try clear hk)
     (try clear hi)
     refine hK.out _ _ ⟨(blk_cell BK158.out 0).trans rfl,(blk_cell BK158.out 1).trans rfl,(blk_cell BK158.out 2).trans rfl,(blk_cell BK158.out 3).trans rfl⟩ (fun hHeld=>?_)
     clear hK K
     refine norm_ (a':=?_) ?_ ?_
     rotate_left
     ·show Act.put _ (some 12) _=_
      simp only [Act.put,List.setIfInBounds_toArray,List.set_cons_zero,List.set_cons_succ,i64_w,i32_w]
      rfl
     refine pure_ (i:=3) (N:=some 13) (v:=?_) (a':=?_) #[true,true,true,true,true,true,false,false,false] rfl rfl (any_of HT_.out (by kernel_rfl)) (fun _ _ _ h=>h) (Or.inl ⟨by rfl,?_⟩) ?_ ?_
     rotate_left
     ·intro w'
      go_simp
      with_reducible rfl
     rotate_left
     ·simp only [Act.put,List.setIfInBounds_toArray,List.set_cons_zero,List.set_cons_succ,i64_w,i32_w]
      rfl
     refine one_ (i:=6) (N:=some 16) #[true,true,true,true,true,true,true,false,false] rfl rfl (one_of HT_.out (by kernel_rfl)) (by decide) (fun K hK=>?_)
     refine goes_ Tryd.func19 (by kernel_rfl) rfl #[.slice A0_2 l0_2.length c0_2] (by rfl) rfl rfl qz2 ?_
     with_reducible refine (spec_TrmText.calls k _ _ l0_2 t161 _ ?side1 ?side2 A7.out).mono ?_
     (case side1=>exact qz5)
     (case side2=>exact HC0_2.out)
     rintro e w15 ⟨rfl,hb⟩
     refine ⟨_,rfl,?_⟩
     have n0_:=Aside0.mk (blk_below (g:=gb158) (o:=.cells #[.int .i64 a0_0,.slice A0_1 l0_1.length c0_1,.slice A0_2 l0_2.length c0_2,.slice A0_3 l0_3.length c0_3] 29 (0,0)) qz30 hb)
     have n1_:=Aside0.mk (below_step qz14 hb)
     clear BK158 HB
     have BK158:=n0_
     have HB:=n1_
     clear n0_ n1_
     (try clear hb)
     (try clear hb2)
     (try clear hk)
     (try clear hi)
     refine hK.out _ _ ⟨(blk_cell BK158.out 0).trans rfl,(blk_cell BK158.out 1).trans rfl,(blk_cell BK158.out 2).trans rfl,(blk_cell BK158.out 3).trans rfl⟩ (fun hHeld=>?_)
     clear hK K
     refine norm_ (a':=?_) ?_ ?_
     rotate_left
     ·show Act.put _ (some 16) _=_
      simp only [Act.put,List.setIfInBounds_toArray,List.set_cons_zero,List.set_cons_succ,i64_w,i32_w]
      rfl
     refine pure_ (i:=7) (N:=some 17) (v:=?_) (a':=?_) #[true,true,true,true,true,true,true,true,false] rfl rfl (any_of HT_.out (by kernel_rfl)) (fun _ _ _ h=>h) (Or.inl ⟨by rfl,?_⟩) ?_ ?_
     rotate_left
     ·intro w'
      go_simp
      with_reducible rfl
     rotate_left
     ·simp only [Act.put,List.setIfInBounds_toArray,List.set_cons_zero,List.set_cons_succ,i64_w,i32_w]
      rfl
     refine pure_ (i:=8) (N:=some 2) (v:=?_) (a':=?_) #[true,true,true,true,true,true,true,true,true] rfl rfl (any_of HT_.out (by kernel_rfl)) (fun _ _ _ h=>h) (Or.inl ⟨by rfl,?_⟩) ?_ ?_
     rotate_left
     ·intro w'
      go_simp
      with_reducible rfl
     rotate_left
     ·simp only [Act.put,List.setIfInBounds_toArray,List.set_cons_zero,List.set_cons_succ,i64_w,i32_w]
      rfl
     refine done_ (done_of HT_.out (by kernel_rfl)) ?_
     try go_wp2
     go_ret
     exact ⟨qz4,qz14⟩
    ·rw [if_neg c8] at H
     exact absurd H (by simp)
   ·rw [if_neg c6] at H
    exact absurd H (by simp)
  ·rw [if_neg c4] at H
   have c4b0:(a0_0 == 2)=false:=beq_eq_false_iff_ne.mpr c4
   have c4b1:(a0_0 != 2)=true:=bne_iff_ne.mpr c4
   by_cases c16:a0_0=3
   ·rw [if_pos c16] at H
    have c16b0:(a0_0 == 3)=true:=beq_iff_eq.mpr c16
    have c16b1:(a0_0 != 3)=false:=bne_eq_false_iff_eq.mpr c16
    clear c16
    obtain rfl:=Option.some.inj H
    go_enter Tryd.func6,Tryd.ntmps6
    go_wp2_with (first|((with_reducible refine gate_dst (N:=1) rfl ?_);refine box_event ?hg (N:=1) ?hd (cs:=#[.int .i64 a0_0,.slice A0_1 l0_1.length c0_1,.slice A0_2 l0_2.length c0_2,.slice A0_3 l0_3.length c0_3]) (t:=29) ?hr ?_;(case hd=>rfl);(case hg=>rfl);(case hr=>first|(go_simp;done)|(go_simp;rfl));intro gb158 hg w17 hbox hb;have n0_:=Aside0.mk (below_step qz1 hb);have n1_:=Aside0.mk (hbox);have n2_:=Aside0.mk ((by rw [hg];exact (below_size qz1):w.heap.size≤gb158));have n3_:=Aside0.mk ((by rw [hg];exact (below_size qz1):w.heap.size≤gb158));clear HB;have HB:=n0_;have BK158:=n1_;have GW158:=n2_;have GE158:=n3_;clear n0_ n1_ n2_ n3_ hb hbox hg;have hcz18_0:w17.cell? ⟨gb158,0,none⟩=some (.int .i64 a0_0):=(blk_cell BK158.out 0).trans rfl;have hcz18_1:w17.cell? ⟨gb158,1,none⟩=some (.slice A0_1 l0_1.length c0_1):=(blk_cell BK158.out 1).trans rfl;have hcz18_2:w17.cell? ⟨gb158,2,none⟩=some (.slice A0_2 l0_2.length c0_2):=(blk_cell BK158.out 2).trans rfl;have hcz18_3:w17.cell? ⟨gb158,3,none⟩=some (.slice A0_3 l0_3.length c0_3):=(blk_cell BK158.out 3).trans rfl;have hfz18_0:=blk_frozen BK158.out 0;have hfz18_1:=blk_frozen BK158.out 1;have hfz18_2:=blk_frozen BK158.out 2;have hfz18_3:=blk_frozen BK158.out 3)|((with_reducible refine gate_callee (f:=18) rfl ?_);refine goesL_ (some 4) rfl rfl Tryd.func18 (by kernel_rfl) rfl #[.agg #[.int .i64 a0_0,.slice A0_1 l0_1.length c0_1,.slice A0_2 l0_2.length c0_2,.slice A0_3 l0_3.length c0_3]] rfl qz2 ?_;(with_reducible refine (spec_GoalOk.calls k a0_0 _ _ l0_1 _ _ l0_2 _ _ l0_3 true _ ?side1 ?side2 ?side3 ?side4 ?side5 ?side6 A2.out).mono ?_);(case side1=>exact qz3);(case side2=>exact HC0_1.out);(case side3=>exact qz5);(case side4=>exact HC0_2.out);(case side5=>exact qz8);(case side6=>exact HC0_3.out);rintro e w19 ⟨rfl,hb⟩;refine ⟨_,rfl,?_⟩;have n0_:=Aside0.mk (blk_below (g:=gb158) (o:=.cells #[.int .i64 a0_0,.slice A0_1 l0_1.length c0_1,.slice A0_2 l0_2.length c0_2,.slice A0_3 l0_3.length c0_3] 29 (0,0)) qz30 hb);have n1_:=Aside0.mk (below_step qz14 hb);clear BK158 HB;have BK158:=n0_;have HB:=n1_;clear n0_ n1_;(try clear hb);(try clear hb2);(try clear hk);(try clear hi);have hcz20_0:w19.cell? ⟨gb158,0,none⟩=some (.int .i64 a0_0):=(blk_cell BK158.out 0).trans rfl;have hcz20_1:w19.cell? ⟨gb158,1,none⟩=some (.slice A0_1 l0_1.length c0_1):=(blk_cell BK158.out 1).trans rfl;have hcz20_2:w19.cell? ⟨gb158,2,none⟩=some (.slice A0_2 l0_2.length c0_2):=(blk_cell BK158.out 2).trans rfl;have hcz20_3:w19.cell? ⟨gb158,3,none⟩=some (.slice A0_3 l0_3.length c0_3):=(blk_cell BK158.out 3).trans rfl;have hfz20_0:=blk_frozen BK158.out 0;have hfz20_1:=blk_frozen BK158.out 1;have hfz20_2:=blk_frozen BK158.out 2;have hfz20_3:=blk_frozen BK158.out 3))
    go_ret
    exact ⟨qz4,qz14⟩
   ·rw [if_neg c16] at H
    have c16b0:(a0_0 == 3)=false:=beq_eq_false_iff_ne.mpr c16
    have c16b1:(a0_0 != 3)=true:=bne_iff_ne.mpr c16
    by_cases c21:a0_0=4
    ·rw [if_pos c21] at H
     have c21b0:(a0_0 == 4)=true:=beq_iff_eq.mpr c21
     have c21b1:(a0_0 != 4)=false:=bne_eq_false_iff_eq.mpr c21
     clear c21
     replace H:=Option.bind_eq_some_iff.mp H
     obtain ⟨t162,A220,H⟩:=H
     try dsimp only at H
     have A22:=Aside0.mk A220
     clear A220
     by_cases c23:t162.size+3≤9223372036854775807
     ·rw [if_pos c23] at H
      have c23b0:=eq_true c23
      have c23b1:decide (t162.size+3≤9223372036854775807)=true:=decide_eq_true c23
      try have c23b2:(9223372036854775807<t162.size+3)=False:=eq_false (Nat.not_lt.2 c23)
      replace H:=Option.bind_eq_some_iff.mp H
      obtain ⟨t163,A240,H⟩:=H
      try dsimp only at H
      have A24:=Aside0.mk A240
      clear A240
      by_cases c25:(t162++(⟨#[32,60,32]⟩:ByteArray)).size+t163.size≤9223372036854775807
      ·rw [if_pos c25] at H
       have c25b0:=eq_true c25
       have c25b1:decide ((t162++(⟨#[32,60,32]⟩:ByteArray)).size+t163.size≤9223372036854775807)=true:=decide_eq_true c25
       try (have c25b1s:=c25b1;simp only [ByteArray.size_append,(show (⟨#[32,60,32]⟩:ByteArray).size=3 from rfl)] at c25b1s)
       try have c25b2:(9223372036854775807<(t162++(⟨#[32,60,32]⟩:ByteArray)).size+t163.size)=False:=eq_false (Nat.not_lt.2 c25)
       try (have c25b2s:=c25b2;simp only [ByteArray.size_append,(show (⟨#[32,60,32]⟩:ByteArray).size=3 from rfl)] at c25b2s)
       obtain rfl:=Option.some.inj H
       go_enter Tryd.func6,Tryd.ntmps6
       try go_wp2_with (first|((with_reducible refine gate_dst (N:=1) rfl ?_);refine box_event ?hg (N:=1) ?hd (cs:=#[.int .i64 a0_0,.slice A0_1 l0_1.length c0_1,.slice A0_2 l0_2.length c0_2,.slice A0_3 l0_3.length c0_3]) (t:=29) ?hr ?_;(case hd=>rfl);(case hg=>rfl);(case hr=>first|(go_simp;done)|(go_simp;rfl));intro gb158 hg w26 hbox hb;have n0_:=Aside0.mk (below_step qz1 hb);have n1_:=Aside0.mk (hbox);have n2_:=Aside0.mk ((by rw [hg];exact (below_size qz1):w.heap.size≤gb158));have n3_:=Aside0.mk ((by rw [hg];exact (below_size qz1):w.heap.size≤gb158));clear HB;have HB:=n0_;have BK158:=n1_;have GW158:=n2_;have GE158:=n3_;clear n0_ n1_ n2_ n3_ hb hbox hg;have hcz27_0:w26.cell? ⟨gb158,0,none⟩=some (.int .i64 a0_0):=(blk_cell BK158.out 0).trans rfl;have hcz27_1:w26.cell? ⟨gb158,1,none⟩=some (.slice A0_1 l0_1.length c0_1):=(blk_cell BK158.out 1).trans rfl;have hcz27_2:w26.cell? ⟨gb158,2,none⟩=some (.slice A0_2 l0_2.length c0_2):=(blk_cell BK158.out 2).trans rfl;have hcz27_3:w26.cell? ⟨gb158,3,none⟩=some (.slice A0_3 l0_3.length c0_3):=(blk_cell BK158.out 3).trans rfl;have hfz27_0:=blk_frozen BK158.out 0;have hfz27_1:=blk_frozen BK158.out 1;have hfz27_2:=blk_frozen BK158.out 2;have hfz27_3:=blk_frozen BK158.out 3)|((with_reducible refine gate_callee (f:=18) rfl ?_);refine goesL_ (some 4) rfl rfl Tryd.func18 (by kernel_rfl) rfl #[.agg #[.int .i64 a0_0,.slice A0_1 l0_1.length c0_1,.slice A0_2 l0_2.length c0_2,.slice A0_3 l0_3.length c0_3]] rfl qz2 ?_;(with_reducible refine (spec_GoalOk.calls k a0_0 _ _ l0_1 _ _ l0_2 _ _ l0_3 true _ ?side1 ?side2 ?side3 ?side4 ?side5 ?side6 A2.out).mono ?_);(case side1=>exact qz3);(case side2=>exact HC0_1.out);(case side3=>exact qz5);(case side4=>exact HC0_2.out);(case side5=>exact qz8);(case side6=>exact HC0_3.out);rintro e w28 ⟨rfl,hb⟩;refine ⟨_,rfl,?_⟩;have n0_:=Aside0.mk (blk_below (g:=gb158) (o:=.cells #[.int .i64 a0_0,.slice A0_1 l0_1.length c0_1,.slice A0_2 l0_2.length c0_2,.slice A0_3 l0_3.length c0_3] 29 (0,0)) qz30 hb);have n1_:=Aside0.mk (below_step qz14 hb);clear BK158 HB;have BK158:=n0_;have HB:=n1_;clear n0_ n1_;(try clear hb);(try clear hb2);(try clear hk);(try clear hi);have hcz29_0:w28.cell? ⟨gb158,0,none⟩=some (.int .i64 a0_0):=(blk_cell BK158.out 0).trans rfl;have hcz29_1:w28.cell? ⟨gb158,1,none⟩=some (.slice A0_1 l0_1.length c0_1):=(blk_cell BK158.out 1).trans rfl;have hcz29_2:w28.cell? ⟨gb158,2,none⟩=some (.slice A0_2 l0_2.length c0_2):=(blk_cell BK158.out 2).trans rfl;have hcz29_3:w28.cell? ⟨gb158,3,none⟩=some (.slice A0_3 l0_3.length c0_3):=(blk_cell BK158.out 3).trans rfl;have hfz29_0:=blk_frozen BK158.out 0;have hfz29_1:=blk_frozen BK158.out 1;have hfz29_2:=blk_frozen BK158.out 2;have hfz29_3:=blk_frozen BK158.out 3))
       have n0_:=Aside0.mk (blk_drew BK158.out)
       have n1_:=Aside0.mk (below_drew1 HB.out)
       clear BK158 HB
       have BK158:=n0_
       have HB:=n1_
       clear n0_ n1_
       refine start_ (n:=9) (S:=fun w'=>w'.cell? ⟨gb158,0,none⟩=some (.int .i64 a0_0)∧w'.cell? ⟨gb158,1,none⟩=some (.slice A0_1 l0_1.length c0_1)∧w'.cell? ⟨gb158,2,none⟩=some (.slice A0_2 l0_2.length c0_2)∧w'.cell? ⟨gb158,3,none⟩=some (.slice A0_3 l0_3.length c0_3)) (ds:=[]) #[false,false,false,false,false,false,false,false,false] (by kernel_rfl) rfl rfl ⟨(blk_cell BK158.out 0).trans rfl,(blk_cell BK158.out 1).trans rfl,(blk_cell BK158.out 2).trans rfl,(blk_cell BK158.out 3).trans rfl⟩ (fun hHeld=>?_);refine with_tabW spec_GoalText.tab9 spec_GoalText.bits9 (fun HT_ HW_=>?_)
       generalize w28.drew=w30 at BK158 HB hHeld ⊢
       refine pure_ (i:=0) (N:=some 22) (v:=?_) (a':=?_) #[true,false,false,false,false,false,false,false,false] rfl rfl (any_of HT_.out (by kernel_rfl)) (fun _ _ _ h=>h) (Or.inl ⟨by rfl,?_⟩) ?_ ?_
       rotate_left
       ·intro w'
        go_simp
        with_reducible rfl
       rotate_left
       ·simp only [Act.put,List.setIfInBounds_toArray,List.set_cons_zero,List.set_cons_succ,i64_w,i32_w]
        rfl
       refine pure_ (i:=4) (N:=some 26) (v:=?_) (a':=?_) #[true,false,false,false,true,false,false,false,false] rfl rfl (any_of HT_.out (by kernel_rfl)) (fun _ _ _ h=>h) (Or.inl ⟨by rfl,?_⟩) ?_ ?_
       rotate_left
       ·intro w'
        go_simp
        with_reducible rfl
       rotate_left
       ·simp only [Act.put,List.setIfInBounds_toArray,List.set_cons_zero,List.set_cons_succ,i64_w,i32_w]
        rfl
       refine take_ (i:=1) (N:=some 23) (v:=?_) (a':=?_) #[true,true,false,false,true,false,false,false,false] rfl rfl (take_ofW HT_.out HW_.out (by kernel_rfl)) (fun _ _ _ h=>h) (Or.inl ⟨by rfl,?_⟩) hHeld ?_ ?_
       rotate_left
       ·rintro w' ⟨s0,s1,s2,s3⟩
        go_simp
        with_reducible rfl
       rotate_left
       ·simp only [Act.put,List.setIfInBounds_toArray,List.set_cons_zero,List.set_cons_succ,i64_w,i32_w]
        rfl
       refine take_ (i:=5) (N:=some 27) (v:=?_) (a':=?_) #[true,true,false,false,true,true,false,false,false] rfl rfl (take_ofW HT_.out HW_.out (by kernel_rfl)) (fun _ _ _ h=>h) (Or.inl ⟨by rfl,?_⟩) hHeld ?_ ?_
       rotate_left
       ·rintro w' ⟨s0,s1,s2,s3⟩
        go_simp
        with_reducible rfl
       rotate_left
       ·simp only [Act.put,List.setIfInBounds_toArray,List.set_cons_zero,List.set_cons_succ,i64_w,i32_w]
        rfl
       refine one_ (i:=2) (N:=some 24) #[true,true,true,false,true,true,false,false,false] rfl rfl (one_of HT_.out (by kernel_rfl)) (by decide) (fun K hK=>?_)
       refine goes_ Tryd.func19 (by kernel_rfl) rfl #[.slice A0_1 l0_1.length c0_1] (by rfl) rfl rfl qz2 ?_
       with_reducible refine (spec_TrmText.calls k _ _ l0_1 t162 _ ?side1 ?side2 A22.out).mono ?_
       (case side1=>exact qz3)
       (case side2=>exact HC0_1.out)
       rintro e w31 ⟨rfl,hb⟩
       refine ⟨_,rfl,?_⟩
       have n0_:=Aside0.mk (blk_below (g:=gb158) (o:=.cells #[.int .i64 a0_0,.slice A0_1 l0_1.length c0_1,.slice A0_2 l0_2.length c0_2,.slice A0_3 l0_3.length c0_3] 29 (0,0)) qz30 hb)
       have n1_:=Aside0.mk (below_step qz14 hb)
       clear BK158 HB
       have BK158:=n0_
       have HB:=n1_
       clear n0_ n1_
       (try clear hb)
       (try clear hb2)
       (try clear hk)
       (try clear hi)
       refine hK.out _ _ ⟨(blk_cell BK158.out 0).trans rfl,(blk_cell BK158.out 1).trans rfl,(blk_cell BK158.out 2).trans rfl,(blk_cell BK158.out 3).trans rfl⟩ (fun hHeld=>?_)
       clear hK K
       refine norm_ (a':=?_) ?_ ?_
       rotate_left
       ·show Act.put _ (some 24) _=_
        simp only [Act.put,List.setIfInBounds_toArray,List.set_cons_zero,List.set_cons_succ,i64_w,i32_w]
        rfl
       refine pure_ (i:=3) (N:=some 25) (v:=?_) (a':=?_) #[true,true,true,true,true,true,false,false,false] rfl rfl (any_of HT_.out (by kernel_rfl)) (fun _ _ _ h=>h) (Or.inl ⟨by rfl,?_⟩) ?_ ?_
       rotate_left
       ·intro w'
        go_simp
        with_reducible rfl
       rotate_left
       ·simp only [Act.put,List.setIfInBounds_toArray,List.set_cons_zero,List.set_cons_succ,i64_w,i32_w]
        rfl
       refine one_ (i:=6) (N:=some 28) #[true,true,true,true,true,true,true,false,false] rfl rfl (one_of HT_.out (by kernel_rfl)) (by decide) (fun K hK=>?_)
       refine goes_ Tryd.func19 (by kernel_rfl) rfl #[.slice A0_2 l0_2.length c0_2] (by rfl) rfl rfl qz2 ?_
       with_reducible refine (spec_TrmText.calls k _ _ l0_2 t163 _ ?side1 ?side2 A24.out).mono ?_
       (case side1=>exact qz5)
       (case side2=>exact HC0_2.out)
       rintro e w32 ⟨rfl,hb⟩
       refine ⟨_,rfl,?_⟩
       have n0_:=Aside0.mk (blk_below (g:=gb158) (o:=.cells #[.int .i64 a0_0,.slice A0_1 l0_1.length c0_1,.slice A0_2 l0_2.length c0_2,.slice A0_3 l0_3.length c0_3] 29 (0,0)) qz30 hb)
       have n1_:=Aside0.mk (below_step qz14 hb)
       clear BK158 HB
       have BK158:=n0_
       have HB:=n1_
       clear n0_ n1_
       (try clear hb)
       (try clear hb2)
       (try clear hk)
       (try clear hi)
       refine hK.out _ _ ⟨(blk_cell BK158.out 0).trans rfl,(blk_cell BK158.out 1).trans rfl,(blk_cell BK158.out 2).trans rfl,(blk_cell BK158.out 3).trans rfl⟩ (fun hHeld=>?_)
       clear hK K
       refine norm_ (a':=?_) ?_ ?_
       rotate_left
       ·show Act.put _ (some 28) _=_
        simp only [Act.put,List.setIfInBounds_toArray,List.set_cons_zero,List.set_cons_succ,i64_w,i32_w]
        rfl
       refine pure_ (i:=7) (N:=some 29) (v:=?_) (a':=?_) #[true,true,true,true,true,true,true,true,false] rfl rfl (any_of HT_.out (by kernel_rfl)) (fun _ _ _ h=>h) (Or.inl ⟨by rfl,?_⟩) ?_ ?_
       rotate_left
       ·intro w'
        go_simp
        with_reducible rfl
       rotate_left
       ·simp only [Act.put,List.setIfInBounds_toArray,List.set_cons_zero,List.set_cons_succ,i64_w,i32_w]
        rfl
       refine pure_ (i:=8) (N:=some 2) (v:=?_) (a':=?_) #[true,true,true,true,true,true,true,true,true] rfl rfl (any_of HT_.out (by kernel_rfl)) (fun _ _ _ h=>h) (Or.inl ⟨by rfl,?_⟩) ?_ ?_
       rotate_left
       ·intro w'
        go_simp
        with_reducible rfl
       rotate_left
       ·simp only [Act.put,List.setIfInBounds_toArray,List.set_cons_zero,List.set_cons_succ,i64_w,i32_w]
        rfl
       refine done_ (done_of HT_.out (by kernel_rfl)) ?_
       try go_wp2
       go_ret
       exact ⟨qz4,qz14⟩
      ·rw [if_neg c25] at H
       exact absurd H (by simp)
     ·rw [if_neg c23] at H
      exact absurd H (by simp)
    ·rw [if_neg c21] at H
     have c21b0:(a0_0 == 4)=false:=beq_eq_false_iff_ne.mpr c21
     have c21b1:(a0_0 != 4)=true:=bne_iff_ne.mpr c21
     by_cases c33:a0_0=5
     ·rw [if_pos c33] at H
      have c33b0:(a0_0 == 5)=true:=beq_iff_eq.mpr c33
      have c33b1:(a0_0 != 5)=false:=bne_eq_false_iff_eq.mpr c33
      clear c33
      replace H:=Option.bind_eq_some_iff.mp H
      obtain ⟨t164,A340,H⟩:=H
      try dsimp only at H
      have A34:=Aside0.mk A340
      clear A340
      by_cases c35:t164.size+3≤9223372036854775807
      ·rw [if_pos c35] at H
       have c35b0:=eq_true c35
       have c35b1:decide (t164.size+3≤9223372036854775807)=true:=decide_eq_true c35
       try have c35b2:(9223372036854775807<t164.size+3)=False:=eq_false (Nat.not_lt.2 c35)
       replace H:=Option.bind_eq_some_iff.mp H
       obtain ⟨t165,A360,H⟩:=H
       try dsimp only at H
       have A36:=Aside0.mk A360
       clear A360
       by_cases c37:(t164++(⟨#[32,43,32]⟩:ByteArray)).size+t165.size≤9223372036854775807
       ·rw [if_pos c37] at H
        have c37b0:=eq_true c37
        have c37b1:decide ((t164++(⟨#[32,43,32]⟩:ByteArray)).size+t165.size≤9223372036854775807)=true:=decide_eq_true c37
        try (have c37b1s:=c37b1;simp only [ByteArray.size_append,(show (⟨#[32,43,32]⟩:ByteArray).size=3 from rfl)] at c37b1s)
        try have c37b2:(9223372036854775807<(t164++(⟨#[32,43,32]⟩:ByteArray)).size+t165.size)=False:=eq_false (Nat.not_lt.2 c37)
        try (have c37b2s:=c37b2;simp only [ByteArray.size_append,(show (⟨#[32,43,32]⟩:ByteArray).size=3 from rfl)] at c37b2s)
        by_cases c38:((t164++(⟨#[32,43,32]⟩:ByteArray))++t165).size+3≤9223372036854775807
        ·rw [if_pos c38] at H
         have c38b0:=eq_true c38
         have c38b1:decide (((t164++(⟨#[32,43,32]⟩:ByteArray))++t165).size+3≤9223372036854775807)=true:=decide_eq_true c38
         try (have c38b1s:=c38b1;simp only [ByteArray.size_append,(show (⟨#[32,43,32]⟩:ByteArray).size=3 from rfl)] at c38b1s)
         try have c38b2:(9223372036854775807<((t164++(⟨#[32,43,32]⟩:ByteArray))++t165).size+3)=False:=eq_false (Nat.not_lt.2 c38)
         try (have c38b2s:=c38b2;simp only [ByteArray.size_append,(show (⟨#[32,43,32]⟩:ByteArray).size=3 from rfl)] at c38b2s)
         replace H:=Option.bind_eq_some_iff.mp H
         obtain ⟨t166,A390,H⟩:=H
         try dsimp only at H
         have A39:=Aside0.mk A390
         clear A390
         by_cases c40:(((t164++(⟨#[32,43,32]⟩:ByteArray))++t165)++(⟨#[32,61,32]⟩:ByteArray)).size+t166.size≤9223372036854775807
         ·rw [if_pos c40] at H
          have c40b0:=eq_true c40
          have c40b1:decide ((((t164++(⟨#[32,43,32]⟩:ByteArray))++t165)++(⟨#[32,61,32]⟩:ByteArray)).size+t166.size≤9223372036854775807)=true:=decide_eq_true c40
          try (have c40b1s:=c40b1;simp only [ByteArray.size_append,(show (⟨#[32,43,32]⟩:ByteArray).size=3 from rfl),(show (⟨#[32,61,32]⟩:ByteArray).size=3 from rfl)] at c40b1s)
          try have c40b2:(9223372036854775807<(((t164++(⟨#[32,43,32]⟩:ByteArray))++t165)++(⟨#[32,61,32]⟩:ByteArray)).size+t166.size)=False:=eq_false (Nat.not_lt.2 c40)
          try (have c40b2s:=c40b2;simp only [ByteArray.size_append,(show (⟨#[32,43,32]⟩:ByteArray).size=3 from rfl),(show (⟨#[32,61,32]⟩:ByteArray).size=3 from rfl)] at c40b2s)
          obtain rfl:=Option.some.inj H
          go_enter Tryd.func6,Tryd.ntmps6
          try go_wp2_with (first|((with_reducible refine gate_dst (N:=1) rfl ?_);refine box_event ?hg (N:=1) ?hd (cs:=#[.int .i64 a0_0,.slice A0_1 l0_1.length c0_1,.slice A0_2 l0_2.length c0_2,.slice A0_3 l0_3.length c0_3]) (t:=29) ?hr ?_;(case hd=>rfl);(case hg=>rfl);(case hr=>first|(go_simp;done)|(go_simp;rfl));intro gb158 hg w41 hbox hb;have n0_:=Aside0.mk (below_step qz1 hb);have n1_:=Aside0.mk (hbox);have n2_:=Aside0.mk ((by rw [hg];exact (below_size qz1):w.heap.size≤gb158));have n3_:=Aside0.mk ((by rw [hg];exact (below_size qz1):w.heap.size≤gb158));clear HB;have HB:=n0_;have BK158:=n1_;have GW158:=n2_;have GE158:=n3_;clear n0_ n1_ n2_ n3_ hb hbox hg;have hcz42_0:w41.cell? ⟨gb158,0,none⟩=some (.int .i64 a0_0):=(blk_cell BK158.out 0).trans rfl;have hcz42_1:w41.cell? ⟨gb158,1,none⟩=some (.slice A0_1 l0_1.length c0_1):=(blk_cell BK158.out 1).trans rfl;have hcz42_2:w41.cell? ⟨gb158,2,none⟩=some (.slice A0_2 l0_2.length c0_2):=(blk_cell BK158.out 2).trans rfl;have hcz42_3:w41.cell? ⟨gb158,3,none⟩=some (.slice A0_3 l0_3.length c0_3):=(blk_cell BK158.out 3).trans rfl;have hfz42_0:=blk_frozen BK158.out 0;have hfz42_1:=blk_frozen BK158.out 1;have hfz42_2:=blk_frozen BK158.out 2;have hfz42_3:=blk_frozen BK158.out 3)|((with_reducible refine gate_callee (f:=18) rfl ?_);refine goesL_ (some 4) rfl rfl Tryd.func18 (by kernel_rfl) rfl #[.agg #[.int .i64 a0_0,.slice A0_1 l0_1.length c0_1,.slice A0_2 l0_2.length c0_2,.slice A0_3 l0_3.length c0_3]] rfl qz2 ?_;(with_reducible refine (spec_GoalOk.calls k a0_0 _ _ l0_1 _ _ l0_2 _ _ l0_3 true _ ?side1 ?side2 ?side3 ?side4 ?side5 ?side6 A2.out).mono ?_);(case side1=>exact qz3);(case side2=>exact HC0_1.out);(case side3=>exact qz5);(case side4=>exact HC0_2.out);(case side5=>exact qz8);(case side6=>exact HC0_3.out);rintro e w43 ⟨rfl,hb⟩;refine ⟨_,rfl,?_⟩;have n0_:=Aside0.mk (blk_below (g:=gb158) (o:=.cells #[.int .i64 a0_0,.slice A0_1 l0_1.length c0_1,.slice A0_2 l0_2.length c0_2,.slice A0_3 l0_3.length c0_3] 29 (0,0)) qz30 hb);have n1_:=Aside0.mk (below_step qz14 hb);clear BK158 HB;have BK158:=n0_;have HB:=n1_;clear n0_ n1_;(try clear hb);(try clear hb2);(try clear hk);(try clear hi);have hcz44_0:w43.cell? ⟨gb158,0,none⟩=some (.int .i64 a0_0):=(blk_cell BK158.out 0).trans rfl;have hcz44_1:w43.cell? ⟨gb158,1,none⟩=some (.slice A0_1 l0_1.length c0_1):=(blk_cell BK158.out 1).trans rfl;have hcz44_2:w43.cell? ⟨gb158,2,none⟩=some (.slice A0_2 l0_2.length c0_2):=(blk_cell BK158.out 2).trans rfl;have hcz44_3:w43.cell? ⟨gb158,3,none⟩=some (.slice A0_3 l0_3.length c0_3):=(blk_cell BK158.out 3).trans rfl;have hfz44_0:=blk_frozen BK158.out 0;have hfz44_1:=blk_frozen BK158.out 1;have hfz44_2:=blk_frozen BK158.out 2;have hfz44_3:=blk_frozen BK158.out 3))
          have n0_:=Aside0.mk (blk_drew BK158.out)
          have n1_:=Aside0.mk (below_drew1 HB.out)
          clear BK158 HB
          have BK158:=n0_
          have HB:=n1_
          clear n0_ n1_
          refine start_ (n:=14) (S:=fun w'=>w'.cell? ⟨gb158,0,none⟩=some (.int .i64 a0_0)∧w'.cell? ⟨gb158,1,none⟩=some (.slice A0_1 l0_1.length c0_1)∧w'.cell? ⟨gb158,2,none⟩=some (.slice A0_2 l0_2.length c0_2)∧w'.cell? ⟨gb158,3,none⟩=some (.slice A0_3 l0_3.length c0_3)) (ds:=[]) #[false,false,false,false,false,false,false,false,false,false,false,false,false,false] (by kernel_rfl) rfl rfl ⟨(blk_cell BK158.out 0).trans rfl,(blk_cell BK158.out 1).trans rfl,(blk_cell BK158.out 2).trans rfl,(blk_cell BK158.out 3).trans rfl⟩ (fun hHeld=>?_);refine with_tabW spec_GoalText.tab11 spec_GoalText.bits11 (fun HT_ HW_=>?_)
          generalize w43.drew=w45 at BK158 HB hHeld ⊢
          refine pure_ (i:=0) (N:=some 32) (v:=?_) (a':=?_) #[true,false,false,false,false,false,false,false,false,false,false,false,false,false] rfl rfl (any_of HT_.out (by kernel_rfl)) (fun _ _ _ h=>h) (Or.inl ⟨by rfl,?_⟩) ?_ ?_
          rotate_left
          ·intro w'
           go_simp
           with_reducible rfl
          rotate_left
          ·simp only [Act.put,List.setIfInBounds_toArray,List.set_cons_zero,List.set_cons_succ,i64_w,i32_w]
           rfl
          refine pure_ (i:=4) (N:=some 36) (v:=?_) (a':=?_) #[true,false,false,false,true,false,false,false,false,false,false,false,false,false] rfl rfl (any_of HT_.out (by kernel_rfl)) (fun _ _ _ h=>h) (Or.inl ⟨by rfl,?_⟩) ?_ ?_
          rotate_left
          ·intro w'
           go_simp
           with_reducible rfl
          rotate_left
          ·simp only [Act.put,List.setIfInBounds_toArray,List.set_cons_zero,List.set_cons_succ,i64_w,i32_w]
           rfl
          refine pure_ (i:=9) (N:=some 41) (v:=?_) (a':=?_) #[true,false,false,false,true,false,false,false,false,true,false,false,false,false] rfl rfl (any_of HT_.out (by kernel_rfl)) (fun _ _ _ h=>h) (Or.inl ⟨by rfl,?_⟩) ?_ ?_
          rotate_left
          ·intro w'
           go_simp
           with_reducible rfl
          rotate_left
          ·simp only [Act.put,List.setIfInBounds_toArray,List.set_cons_zero,List.set_cons_succ,i64_w,i32_w]
           rfl
          refine take_ (i:=1) (N:=some 33) (v:=?_) (a':=?_) #[true,true,false,false,true,false,false,false,false,true,false,false,false,false] rfl rfl (take_ofW HT_.out HW_.out (by kernel_rfl)) (fun _ _ _ h=>h) (Or.inl ⟨by rfl,?_⟩) hHeld ?_ ?_
          rotate_left
          ·rintro w' ⟨s0,s1,s2,s3⟩
           go_simp
           with_reducible rfl
          rotate_left
          ·simp only [Act.put,List.setIfInBounds_toArray,List.set_cons_zero,List.set_cons_succ,i64_w,i32_w]
           rfl
          refine take_ (i:=5) (N:=some 37) (v:=?_) (a':=?_) #[true,true,false,false,true,true,false,false,false,true,false,false,false,false] rfl rfl (take_ofW HT_.out HW_.out (by kernel_rfl)) (fun _ _ _ h=>h) (Or.inl ⟨by rfl,?_⟩) hHeld ?_ ?_
          rotate_left
          ·rintro w' ⟨s0,s1,s2,s3⟩
           go_simp
           with_reducible rfl
          rotate_left
          ·simp only [Act.put,List.setIfInBounds_toArray,List.set_cons_zero,List.set_cons_succ,i64_w,i32_w]
           rfl
          refine take_ (i:=10) (N:=some 42) (v:=?_) (a':=?_) #[true,true,false,false,true,true,false,false,false,true,true,false,false,false] rfl rfl (take_ofW HT_.out HW_.out (by kernel_rfl)) (fun _ _ _ h=>h) (Or.inl ⟨by rfl,?_⟩) hHeld ?_ ?_
          rotate_left
          ·rintro w' ⟨s0,s1,s2,s3⟩
           go_simp
           with_reducible rfl
          rotate_left
          ·simp only [Act.put,List.setIfInBounds_toArray,List.set_cons_zero,List.set_cons_succ,i64_w,i32_w]
           rfl
          refine one_ (i:=2) (N:=some 34) #[true,true,true,false,true,true,false,false,false,true,true,false,false,false] rfl rfl (one_of HT_.out (by kernel_rfl)) (by decide) (fun K hK=>?_)
          refine goes_ Tryd.func19 (by kernel_rfl) rfl #[.slice A0_1 l0_1.length c0_1] (by rfl) rfl rfl qz2 ?_
          with_reducible refine (spec_TrmText.calls k _ _ l0_1 t164 _ ?side1 ?side2 A34.out).mono ?_
          (case side1=>exact qz3)
          (case side2=>exact HC0_1.out)
          rintro e w46 ⟨rfl,hb⟩
          refine ⟨_,rfl,?_⟩
          have n0_:=Aside0.mk (blk_below (g:=gb158) (o:=.cells #[.int .i64 a0_0,.slice A0_1 l0_1.length c0_1,.slice A0_2 l0_2.length c0_2,.slice A0_3 l0_3.length c0_3] 29 (0,0)) qz30 hb)
          have n1_:=Aside0.mk (below_step qz14 hb)
          clear BK158 HB
          have BK158:=n0_
          have HB:=n1_
          clear n0_ n1_
          (try clear hb)
          (try clear hb2)
          (try clear hk)
          (try clear hi)
          refine hK.out _ _ ⟨(blk_cell BK158.out 0).trans rfl,(blk_cell BK158.out 1).trans rfl,(blk_cell BK158.out 2).trans rfl,(blk_cell BK158.out 3).trans rfl⟩ (fun hHeld=>?_)
          clear hK K
          refine norm_ (a':=?_) ?_ ?_
          rotate_left
          ·show Act.put _ (some 34) _=_
           simp only [Act.put,List.setIfInBounds_toArray,List.set_cons_zero,List.set_cons_succ,i64_w,i32_w]
           rfl
          refine pure_ (i:=3) (N:=some 35) (v:=?_) (a':=?_) #[true,true,true,true,true,true,false,false,false,true,true,false,false,false] rfl rfl (any_of HT_.out (by kernel_rfl)) (fun _ _ _ h=>h) (Or.inl ⟨by rfl,?_⟩) ?_ ?_
          rotate_left
          ·intro w'
           go_simp
           with_reducible rfl
          rotate_left
          ·simp only [Act.put,List.setIfInBounds_toArray,List.set_cons_zero,List.set_cons_succ,i64_w,i32_w]
           rfl
          refine one_ (i:=6) (N:=some 38) #[true,true,true,true,true,true,true,false,false,true,true,false,false,false] rfl rfl (one_of HT_.out (by kernel_rfl)) (by decide) (fun K hK=>?_)
          refine goes_ Tryd.func19 (by kernel_rfl) rfl #[.slice A0_2 l0_2.length c0_2] (by rfl) rfl rfl qz2 ?_
          with_reducible refine (spec_TrmText.calls k _ _ l0_2 t165 _ ?side1 ?side2 A36.out).mono ?_
          (case side1=>exact qz5)
          (case side2=>exact HC0_2.out)
          rintro e w47 ⟨rfl,hb⟩
          refine ⟨_,rfl,?_⟩
          have n0_:=Aside0.mk (blk_below (g:=gb158) (o:=.cells #[.int .i64 a0_0,.slice A0_1 l0_1.length c0_1,.slice A0_2 l0_2.length c0_2,.slice A0_3 l0_3.length c0_3] 29 (0,0)) qz30 hb)
          have n1_:=Aside0.mk (below_step qz14 hb)
          clear BK158 HB
          have BK158:=n0_
          have HB:=n1_
          clear n0_ n1_
          (try clear hb)
          (try clear hb2)
          (try clear hk)
          (try clear hi)
          refine hK.out _ _ ⟨(blk_cell BK158.out 0).trans rfl,(blk_cell BK158.out 1).trans rfl,(blk_cell BK158.out 2).trans rfl,(blk_cell BK158.out 3).trans rfl⟩ (fun hHeld=>?_)
          clear hK K
          refine norm_ (a':=?_) ?_ ?_
          rotate_left
          ·show Act.put _ (some 38) _=_
           simp only [Act.put,List.setIfInBounds_toArray,List.set_cons_zero,List.set_cons_succ,i64_w,i32_w]
           rfl
          refine pure_ (i:=7) (N:=some 39) (v:=?_) (a':=?_) #[true,true,true,true,true,true,true,true,false,true,true,false,false,false] rfl rfl (any_of HT_.out (by kernel_rfl)) (fun _ _ _ h=>h) (Or.inl ⟨by rfl,?_⟩) ?_ ?_
          rotate_left
          ·intro w'
           go_simp
           with_reducible rfl
          rotate_left
          ·simp only [Act.put,List.setIfInBounds_toArray,List.set_cons_zero,List.set_cons_succ,i64_w,i32_w]
           rfl
          refine pure_ (i:=8) (N:=some 40) (v:=?_) (a':=?_) #[true,true,true,true,true,true,true,true,true,true,true,false,false,false] rfl rfl (any_of HT_.out (by kernel_rfl)) (fun _ _ _ h=>h) (Or.inl ⟨by rfl,?_⟩) ?_ ?_
          rotate_left
          ·intro w'
           go_simp
           with_reducible rfl
          rotate_left
          ·simp only [Act.put,List.setIfInBounds_toArray,List.set_cons_zero,List.set_cons_succ,i64_w,i32_w]
           rfl
          refine one_ (i:=11) (N:=some 43) #[true,true,true,true,true,true,true,true,true,true,true,true,false,false] rfl rfl (one_of HT_.out (by kernel_rfl)) (by decide) (fun K hK=>?_)
          refine goes_ Tryd.func19 (by kernel_rfl) rfl #[.slice A0_3 l0_3.length c0_3] (by rfl) rfl rfl qz2 ?_
          with_reducible refine (spec_TrmText.calls k _ _ l0_3 t166 _ ?side1 ?side2 A39.out).mono ?_
          (case side1=>exact qz8)
          (case side2=>exact HC0_3.out)
          rintro e w48 ⟨rfl,hb⟩
          refine ⟨_,rfl,?_⟩
          have n0_:=Aside0.mk (blk_below (g:=gb158) (o:=.cells #[.int .i64 a0_0,.slice A0_1 l0_1.length c0_1,.slice A0_2 l0_2.length c0_2,.slice A0_3 l0_3.length c0_3] 29 (0,0)) qz30 hb)
          have n1_:=Aside0.mk (below_step qz14 hb)
          clear BK158 HB
          have BK158:=n0_
          have HB:=n1_
          clear n0_ n1_
          (try clear hb)
          (try clear hb2)
          (try clear hk)
          (try clear hi)
          refine hK.out _ _ ⟨(blk_cell BK158.out 0).trans rfl,(blk_cell BK158.out 1).trans rfl,(blk_cell BK158.out 2).trans rfl,(blk_cell BK158.out 3).trans rfl⟩ (fun hHeld=>?_)
          clear hK K
          refine norm_ (a':=?_) ?_ ?_
          rotate_left
          ·show Act.put _ (some 43) _=_
           simp only [Act.put,List.setIfInBounds_toArray,List.set_cons_zero,List.set_cons_succ,i64_w,i32_w]
           rfl
          refine pure_ (i:=12) (N:=some 44) (v:=?_) (a':=?_) #[true,true,true,true,true,true,true,true,true,true,true,true,true,false] rfl rfl (any_of HT_.out (by kernel_rfl)) (fun _ _ _ h=>h) (Or.inl ⟨by rfl,?_⟩) ?_ ?_
          rotate_left
          ·intro w'
           go_simp
           with_reducible rfl
          rotate_left
          ·simp only [Act.put,List.setIfInBounds_toArray,List.set_cons_zero,List.set_cons_succ,i64_w,i32_w]
           rfl
          refine pure_ (i:=13) (N:=some 2) (v:=?_) (a':=?_) #[true,true,true,true,true,true,true,true,true,true,true,true,true,true] rfl rfl (any_of HT_.out (by kernel_rfl)) (fun _ _ _ h=>h) (Or.inl ⟨by rfl,?_⟩) ?_ ?_
          rotate_left
          ·intro w'
           go_simp
           with_reducible rfl
          rotate_left
          ·simp only [Act.put,List.setIfInBounds_toArray,List.set_cons_zero,List.set_cons_succ,i64_w,i32_w]
           rfl
          refine done_ (done_of HT_.out (by kernel_rfl)) ?_
          try go_wp2
          go_ret
          exact ⟨qz4,qz14⟩
         ·rw [if_neg c40] at H
          exact absurd H (by simp)
        ·rw [if_neg c38] at H
         exact absurd H (by simp)
       ·rw [if_neg c37] at H
        exact absurd H (by simp)
      ·rw [if_neg c35] at H
       exact absurd H (by simp)
     ·rw [if_neg c33] at H
      have c33b0:(a0_0 == 5)=false:=beq_eq_false_iff_ne.mpr c33
      have c33b1:(a0_0 != 5)=true:=bne_iff_ne.mpr c33
      replace H:=Option.bind_eq_some_iff.mp H
      obtain ⟨t167,A490,H⟩:=H
      try dsimp only at H
      have A49:=Aside0.mk A490
      clear A490
      obtain rfl:=Option.some.inj H
      go_enter Tryd.func6,Tryd.ntmps6
      go_wp2_with (first|((with_reducible refine gate_dst (N:=1) rfl ?_);refine box_event ?hg (N:=1) ?hd (cs:=#[.int .i64 a0_0,.slice A0_1 l0_1.length c0_1,.slice A0_2 l0_2.length c0_2,.slice A0_3 l0_3.length c0_3]) (t:=29) ?hr ?_;(case hd=>rfl);(case hg=>rfl);(case hr=>first|(go_simp;done)|(go_simp;rfl));intro gb158 hg w50 hbox hb;have n0_:=Aside0.mk (below_step qz1 hb);have n1_:=Aside0.mk (hbox);have n2_:=Aside0.mk ((by rw [hg];exact (below_size qz1):w.heap.size≤gb158));have n3_:=Aside0.mk ((by rw [hg];exact (below_size qz1):w.heap.size≤gb158));clear HB;have HB:=n0_;have BK158:=n1_;have GW158:=n2_;have GE158:=n3_;clear n0_ n1_ n2_ n3_ hb hbox hg;have hcz51_0:w50.cell? ⟨gb158,0,none⟩=some (.int .i64 a0_0):=(blk_cell BK158.out 0).trans rfl;have hcz51_1:w50.cell? ⟨gb158,1,none⟩=some (.slice A0_1 l0_1.length c0_1):=(blk_cell BK158.out 1).trans rfl;have hcz51_2:w50.cell? ⟨gb158,2,none⟩=some (.slice A0_2 l0_2.length c0_2):=(blk_cell BK158.out 2).trans rfl;have hcz51_3:w50.cell? ⟨gb158,3,none⟩=some (.slice A0_3 l0_3.length c0_3):=(blk_cell BK158.out 3).trans rfl;have hfz51_0:=blk_frozen BK158.out 0;have hfz51_1:=blk_frozen BK158.out 1;have hfz51_2:=blk_frozen BK158.out 2;have hfz51_3:=blk_frozen BK158.out 3)|((with_reducible refine gate_callee (f:=18) rfl ?_);refine goesL_ (some 4) rfl rfl Tryd.func18 (by kernel_rfl) rfl #[.agg #[.int .i64 a0_0,.slice A0_1 l0_1.length c0_1,.slice A0_2 l0_2.length c0_2,.slice A0_3 l0_3.length c0_3]] rfl qz2 ?_;(with_reducible refine (spec_GoalOk.calls k a0_0 _ _ l0_1 _ _ l0_2 _ _ l0_3 true _ ?side1 ?side2 ?side3 ?side4 ?side5 ?side6 A2.out).mono ?_);(case side1=>exact qz3);(case side2=>exact HC0_1.out);(case side3=>exact qz5);(case side4=>exact HC0_2.out);(case side5=>exact qz8);(case side6=>exact HC0_3.out);rintro e w52 ⟨rfl,hb⟩;refine ⟨_,rfl,?_⟩;have n0_:=Aside0.mk (blk_below (g:=gb158) (o:=.cells #[.int .i64 a0_0,.slice A0_1 l0_1.length c0_1,.slice A0_2 l0_2.length c0_2,.slice A0_3 l0_3.length c0_3] 29 (0,0)) qz30 hb);have n1_:=Aside0.mk (below_step qz14 hb);clear BK158 HB;have BK158:=n0_;have HB:=n1_;clear n0_ n1_;(try clear hb);(try clear hb2);(try clear hk);(try clear hi);have hcz53_0:w52.cell? ⟨gb158,0,none⟩=some (.int .i64 a0_0):=(blk_cell BK158.out 0).trans rfl;have hcz53_1:w52.cell? ⟨gb158,1,none⟩=some (.slice A0_1 l0_1.length c0_1):=(blk_cell BK158.out 1).trans rfl;have hcz53_2:w52.cell? ⟨gb158,2,none⟩=some (.slice A0_2 l0_2.length c0_2):=(blk_cell BK158.out 2).trans rfl;have hcz53_3:w52.cell? ⟨gb158,3,none⟩=some (.slice A0_3 l0_3.length c0_3):=(blk_cell BK158.out 3).trans rfl;have hfz53_0:=blk_frozen BK158.out 0;have hfz53_1:=blk_frozen BK158.out 1;have hfz53_2:=blk_frozen BK158.out 2;have hfz53_3:=blk_frozen BK158.out 3)|((with_reducible refine gate_callee (f:=19) rfl ?_);refine goesL_ (some 47) rfl rfl Tryd.func19 (by kernel_rfl) rfl #[.slice A0_1 l0_1.length c0_1] rfl qz2 ?_;(with_reducible refine (spec_TrmText.calls k _ _ l0_1 t167 _ ?side1 ?side2 A49.out).mono ?_);(case side1=>exact qz3);(case side2=>exact HC0_1.out);rintro e w54 ⟨rfl,hb⟩;refine ⟨_,rfl,?_⟩;have n0_:=Aside0.mk (blk_below (g:=gb158) (o:=.cells #[.int .i64 a0_0,.slice A0_1 l0_1.length c0_1,.slice A0_2 l0_2.length c0_2,.slice A0_3 l0_3.length c0_3] 29 (0,0)) qz30 hb);have n1_:=Aside0.mk (below_step qz14 hb);clear BK158 HB;have BK158:=n0_;have HB:=n1_;clear n0_ n1_;(try clear hb);(try clear hb2);(try clear hk);(try clear hi)))
      go_ret
      exact ⟨qz4,qz14⟩
 ·replace c3:=Bool.eq_false_iff.mpr c3
  subst c3
  have H1:(some (⟨#[]⟩:ByteArray))=some r:=qz29
  clear H
  have H:=H1
  clear H1
  obtain rfl:=Option.some.inj H
  go_enter Tryd.func6,Tryd.ntmps6
  go_wp2_with (first|((with_reducible refine gate_dst (N:=1) rfl ?_);refine box_event ?hg (N:=1) ?hd (cs:=#[.int .i64 a0_0,.slice A0_1 l0_1.length c0_1,.slice A0_2 l0_2.length c0_2,.slice A0_3 l0_3.length c0_3]) (t:=29) ?hr ?_;(case hd=>rfl);(case hg=>rfl);(case hr=>first|(go_simp;done)|(go_simp;rfl));intro gb158 hg w55 hbox hb;have n0_:=Aside0.mk (below_step qz1 hb);have n1_:=Aside0.mk (hbox);have n2_:=Aside0.mk ((by rw [hg];exact (below_size qz1):w.heap.size≤gb158));have n3_:=Aside0.mk ((by rw [hg];exact (below_size qz1):w.heap.size≤gb158));clear HB;have HB:=n0_;have BK158:=n1_;have GW158:=n2_;have GE158:=n3_;clear n0_ n1_ n2_ n3_ hb hbox hg;have hcz56_0:w55.cell? ⟨gb158,0,none⟩=some (.int .i64 a0_0):=(blk_cell BK158.out 0).trans rfl;have hcz56_1:w55.cell? ⟨gb158,1,none⟩=some (.slice A0_1 l0_1.length c0_1):=(blk_cell BK158.out 1).trans rfl;have hcz56_2:w55.cell? ⟨gb158,2,none⟩=some (.slice A0_2 l0_2.length c0_2):=(blk_cell BK158.out 2).trans rfl;have hcz56_3:w55.cell? ⟨gb158,3,none⟩=some (.slice A0_3 l0_3.length c0_3):=(blk_cell BK158.out 3).trans rfl;have hfz56_0:=blk_frozen BK158.out 0;have hfz56_1:=blk_frozen BK158.out 1;have hfz56_2:=blk_frozen BK158.out 2;have hfz56_3:=blk_frozen BK158.out 3)|((with_reducible refine gate_callee (f:=18) rfl ?_);refine goesL_ (some 4) rfl rfl Tryd.func18 (by kernel_rfl) rfl #[.agg #[.int .i64 a0_0,.slice A0_1 l0_1.length c0_1,.slice A0_2 l0_2.length c0_2,.slice A0_3 l0_3.length c0_3]] rfl qz2 ?_;(with_reducible refine (spec_GoalOk.calls k a0_0 _ _ l0_1 _ _ l0_2 _ _ l0_3 false _ ?side1 ?side2 ?side3 ?side4 ?side5 ?side6 A2.out).mono ?_);(case side1=>exact qz3);(case side2=>exact HC0_1.out);(case side3=>exact qz5);(case side4=>exact HC0_2.out);(case side5=>exact qz8);(case side6=>exact HC0_3.out);rintro e w57 ⟨rfl,hb⟩;refine ⟨_,rfl,?_⟩;have n0_:=Aside0.mk (blk_below (g:=gb158) (o:=.cells #[.int .i64 a0_0,.slice A0_1 l0_1.length c0_1,.slice A0_2 l0_2.length c0_2,.slice A0_3 l0_3.length c0_3] 29 (0,0)) qz30 hb);have n1_:=Aside0.mk (below_step qz14 hb);clear BK158 HB;have BK158:=n0_;have HB:=n1_;clear n0_ n1_;(try clear hb);(try clear hb2);(try clear hk);(try clear hi)))
  go_ret
  exact ⟨qz4,qz14⟩

/-! ### impl_in: function 56 -/
def impl_in.f (a0:Int) (a1:Int) (a2:Int):Option (Bool):=if a0≥a1 then (some (decide (a0≤a2))) else (some false)
set_option maxHeartbeats 8000000 in
set_option maxRecDepth 100000 in
theorem impl_in.calls (a0:Int) (a1:Int) (a2:Int) (r:Bool) (w:World) (h:impl_in.f a0 a1 a2=some r) :
  Calls Tryd.prog 56 #[.int .i64 a0,.int .i64 a1,.int .i64 a2] w fun e w'=>e = .returned (.bool r)∧Drawn0 w w':=by
 have H:(if a0≥a1 then (some (decide (a0≤a2))) else (some false))=some r:=h
 clear h
 by_cases c4:a0≥a1
 ·rw [if_pos c4] at H
  have c4b0:decide (a1≤a0)=true:=decide_eq_true c4
  clear c4
  obtain rfl:=Option.some.inj H
  go_enter Tryd.func56,Tryd.ntmps56
  go_wp2
  go_ret
  exact ⟨qz16,qz37⟩
 ·rw [if_neg c4] at H
  have c4b0:decide (a1≤a0)=false:=decide_eq_false c4
  clear c4
  obtain rfl:=Option.some.inj H
  go_enter Tryd.func56,Tryd.ntmps56
  go_wp2
  go_ret
  exact ⟨qz16,qz37⟩

/-! ### strings_Trim: function 78 -/
/-- strings.Trim at an ASCII cutset: the shelf's. -/
def strings_Trim.f (a0:ByteArray) (a1:ByteArray):Option (ByteArray):=if a0.size≤9223372036854775807 then (if a1.size<4294967281 then (if a1.data.toList.all (fun b=>decide (b.toNat<128)) then some (⟨(Lib.trimS a0.data.toList a1.data.toList).toArray⟩:ByteArray) else none) else none) else none
theorem strings_Trim.calls (a0:ByteArray) (a1:ByteArray) (r:ByteArray) (w:World) (h:strings_Trim.f a0 a1=some r) :
  Calls Tryd.prog 78 #[.string a0,.string a1] w fun e w'=>e = .returned (.string r)∧Below w.heap.size w w':=by
 unfold strings_Trim.f at h
 by_cases h1:a0.size≤9223372036854775807
 case neg=>rw [if_neg h1] at h;cases h
 rw [if_pos h1] at h
 by_cases h2:a1.size<4294967281
 case neg=>rw [if_neg h2] at h;cases h
 rw [if_pos h2] at h
 by_cases h3:a1.data.toList.all (fun b=>decide (b.toNat<128))=true
 case neg=>rw [if_neg h3] at h;cases h
 rw [if_pos h3] at h
 obtain rfl:=Option.some.inj h
 refine Tryd.trim_set a0 a1 w h1 h2 ?_
 intro j b hj
 have:=List.all_eq_true.1 h3 b (List.mem_of_getElem? hj)
 simpa using this

/-! ### impl_nameOk: function 55 -/
def impl_nameOk.f (a0:ByteArray):Option (Bool):=(impl_in.f (a0.size:Int) 1 8).bind fun t191=>(if t191=true then ((strings_Trim.f a0 (⟨#[97,98,99,100,101,102,103,104,105,106,107,108,109,110,111,112,113,114,115,116,117,118,119,120,121,122]⟩:ByteArray)).bind fun t192=>(if t192.toList=([]:List UInt8) then (some (a0.toList != ([97,110,100]:List UInt8))) else (some false))) else (some false))
set_option maxHeartbeats 8000000 in
set_option maxRecDepth 100000 in
theorem impl_nameOk.calls (a0:ByteArray) (r:Bool) (w:World) (h:impl_nameOk.f a0=some r) :
  Calls Tryd.prog 55 #[.string a0] w fun e w'=>e = .returned (.bool r)∧Below w.heap.size w w':=by
 have HB:=Aside0.mk (Below.refl w.heap.size w)
 have H:((impl_in.f (a0.size:Int) 1 8).bind fun t191=>(if t191=true then ((strings_Trim.f a0 (⟨#[97,98,99,100,101,102,103,104,105,106,107,108,109,110,111,112,113,114,115,116,117,118,119,120,121,122]⟩:ByteArray)).bind fun t192=>(if t192.toList=([]:List UInt8) then (some (a0.toList != ([97,110,100]:List UInt8))) else (some false))) else (some false)))=some r:=h
 clear h
 replace H:=Option.bind_eq_some_iff.mp H
 obtain ⟨t191,A20,H⟩:=H
 try dsimp only at H
 have A2:=Aside0.mk A20
 clear A20
 by_cases c3:t191=true
 ·subst c3
  have H1:((strings_Trim.f a0 (⟨#[97,98,99,100,101,102,103,104,105,106,107,108,109,110,111,112,113,114,115,116,117,118,119,120,121,122]⟩:ByteArray)).bind fun t192=>(if t192.toList=([]:List UInt8) then (some (a0.toList != ([97,110,100]:List UInt8))) else (some false)))=some r:=qz42
  clear H
  have H:=H1
  clear H1
  replace H:=Option.bind_eq_some_iff.mp H
  obtain ⟨t192,A40,H⟩:=H
  try dsimp only at H
  have A4:=Aside0.mk A40
  clear A40
  by_cases c5:t192.toList=([]:List UInt8)
  ·rw [if_pos c5] at H
   have c5b0:(t192.toList == ([]:List UInt8))=true:=beq_iff_eq.mpr c5
   have c5b1:(t192.toList != ([]:List UInt8))=false:=bne_eq_false_iff_eq.mpr c5
   clear c5
   obtain rfl:=Option.some.inj H
   go_enter Tryd.func55,Tryd.ntmps55
   go_wp2_with (first|((with_reducible refine gate_callee (f:=56) rfl ?_);refine goesL_ (some 5) rfl rfl Tryd.func56 (by kernel_rfl) rfl #[.int .i64 (a0.size:Int),.int .i64 1,.int .i64 8] rfl qz2 ?_;(with_reducible refine (impl_in.calls (a0.size:Int) 1 8 true _ A2.out).mono ?_);rintro e w' ⟨rfl,⟨nd,rfl⟩⟩;refine ⟨_,rfl,?_⟩)|(go_at_call 78;(with_reducible refine (strings_Trim.calls a0 (⟨#[97,98,99,100,101,102,103,104,105,106,107,108,109,110,111,112,113,114,115,116,117,118,119,120,121,122]⟩:ByteArray) t192 _ A4.out).mono ?_);rintro e w6 ⟨rfl,hb⟩;have n0_:=Aside0.mk (below_step qz1 hb);clear HB;have HB:=n0_;clear n0_;(try clear hb);(try clear hb2);(try clear hk);(try clear hi)))
   go_ret
   exact ⟨qz4,qz6⟩
  ·rw [if_neg c5] at H
   have c5b0:(t192.toList == ([]:List UInt8))=false:=beq_eq_false_iff_ne.mpr c5
   have c5b1:(t192.toList != ([]:List UInt8))=true:=bne_iff_ne.mpr c5
   obtain rfl:=Option.some.inj H
   go_enter Tryd.func55,Tryd.ntmps55
   go_wp2_with (first|((with_reducible refine gate_callee (f:=56) rfl ?_);refine goesL_ (some 5) rfl rfl Tryd.func56 (by kernel_rfl) rfl #[.int .i64 (a0.size:Int),.int .i64 1,.int .i64 8] rfl qz2 ?_;(with_reducible refine (impl_in.calls (a0.size:Int) 1 8 true _ A2.out).mono ?_);rintro e w' ⟨rfl,⟨nd,rfl⟩⟩;refine ⟨_,rfl,?_⟩)|(go_at_call 78;(with_reducible refine (strings_Trim.calls a0 (⟨#[97,98,99,100,101,102,103,104,105,106,107,108,109,110,111,112,113,114,115,116,117,118,119,120,121,122]⟩:ByteArray) t192 _ A4.out).mono ?_);rintro e w7 ⟨rfl,hb⟩;have n0_:=Aside0.mk (below_step qz1 hb);clear HB;have HB:=n0_;clear n0_;(try clear hb);(try clear hb2);(try clear hk);(try clear hi)))
   go_ret
   exact ⟨qz4,qz6⟩
 ·replace c3:=Bool.eq_false_iff.mpr c3
  subst c3
  have H1:(some false)=some r:=qz29
  clear H
  have H:=H1
  clear H1
  obtain rfl:=Option.some.inj H
  go_enter Tryd.func55,Tryd.ntmps55
  go_wp2_with (first|((with_reducible refine gate_callee (f:=56) rfl ?_);refine goesL_ (some 5) rfl rfl Tryd.func56 (by kernel_rfl) rfl #[.int .i64 (a0.size:Int),.int .i64 1,.int .i64 8] rfl qz2 ?_;(with_reducible refine (impl_in.calls (a0.size:Int) 1 8 false _ A2.out).mono ?_);rintro e w' ⟨rfl,⟨nd,rfl⟩⟩;refine ⟨_,rfl,?_⟩))
  go_ret
  exact ⟨qz4,qz6⟩

end Go.Proofs.YtlhniagacegbeaaDoor.P
