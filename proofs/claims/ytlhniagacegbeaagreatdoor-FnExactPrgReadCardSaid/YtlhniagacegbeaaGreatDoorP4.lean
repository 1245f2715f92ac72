/- Contracts of functions of the program: each as a Lean function, and that its call does what that says; printed by cprint.py (this session) over print.py of the kit. Conditions: the hypotheses of each theorem. -/
import Derived.Test.YtlhniagacegbeaaGreatDoorVZ
import Derived.Test.YtlhniagacegbeaaGreatDoorP0
import Derived.Test.YtlhniagacegbeaaGreatDoorP3
namespace Go.Proofs.YtlhniagacegbeaaGreatDoor.P
open Go.RowKit Go.Proofs.YtlhniagacegbeaaGreatDoorW.PrintWords Go.Proofs.YtlhniagacegbeaaGreatDoorW.PrintLast Go.Proofs.YtlhniagacegbeaaGreatDoorW.PrintMore
attribute [local go_sem] max2_int min2_int max_two min_two max_three min_three max_four min_four   -- for this text's walks alone
set_option linter.unusedVariables false
set_option linter.unusedSimpArgs false

/-! ### impl_goalShape: function 38 -/
/-- what a goal's shape is, of terms that may stand in a clause -/
def shapeOk (k:Int) (a b c:List Cat.Cell):Bool:=
 if k=1∨k=6 then (Cat.called a && Cat.inCl a) && (((b.length:Int) == 0) && ((c.length:Int) == 0))
 else if k=2∨k=4 then (Cat.isTerm a && Cat.inCl a) && ((Cat.isTerm b && Cat.inCl b) && ((c.length:Int) == 0))
 else if k=5 then (Cat.isTerm a && Cat.inCl a) && ((Cat.isTerm b && Cat.inCl b) && (Cat.isTerm c && Cat.inCl c))
 else if k=3 then ((a.length:Int) == 0) && (((b.length:Int) == 0) && ((c.length:Int) == 0))
 else false
theorem inClause_pure (l:List Cat.Cell):impl_inClause.f l=some (Cat.inCl l):=by
 unfold impl_inClause.f Cat.inCl;by_cases h:(l.length:Int)≤12
 ·rw [if_pos h,decide_eq_true (by omega:l.length≤12),Bool.true_and];rfl
 ·rw [if_neg h,decide_eq_false (by omega:¬ l.length≤12),Bool.false_and]
theorem called_pure (l:List Cat.Cell):impl_called.f l=some (Cat.called l):=by
 unfold impl_called.f Cat.called
 show ((some (Cat.isTerm l)).bind _)=_
 rw [Option.bind_some];by_cases h:Cat.isTerm l=true
 ·rw [if_pos h,h,Bool.true_and]
  cases l with
  | nil=>exact absurd h (by decide)
  | cons c l=>
   rw [if_pos (by rw [List.length_cons];omega)];rfl
 ·rw [if_neg h,Bool.eq_false_iff.2 h,Bool.false_and]
theorem goesF_ {P : Program} {ops : Array Oper} {Q : Exit → Act → World → Prop} {oi : Oper} {N : Option Tmp} {a : Act} {w : World} {K : Act → World → Prop} {f : FuncId} {fn : Func} {xs : Array Operand} {ts : Array TypeId} {t : Tmp} (hf : P.funcs[f]? = some fn) (hname : (fn.name == "runtime.NumGoroutine") = false) (hb : fn.body.isSome = true) (args : Array Value)
  (hw:Region.wanted oi (yielded ops a.tmps)=true) (hN:oi.dst=N) (hop:oi.op = .call { callee:=.value (.tmp t),args:=xs,argTypes:=ts }) (hfv:a.eval (.tmp t) = .func (.func f) #[] #[]) (hargs:xs.map a.eval=args)
  (h:Calls P f args w fun e w'=>∃ v,e = .returned v∧K (a.put N v) w'):if Region.wanted oi (yielded ops a.tmps)=true then Oper.wp P oi a w K Q else K (a.put N undef) w:=by
 refine call_ f args hw hN ?_ h;have he:=enters_ hf hname hb args w;unfold execOp
 simp [hop,hfv,resolve,Deferred.ofValue,invoke,hargs,he]
def impl_goalShape.f (a0_0:Int) (l0_1:List (S63)) (l0_2:List (S63)) (l0_3:List (S63)):Option (Bool):=some (shapeOk a0_0 l0_1 l0_2 l0_3)
def impl_goalShape.T1:Bool × List (List Nat × List Nat):=(true,[([],[]),([0],[0]),([1],[1]),([2],[2]),([],[]),([4],[4]),([5],[5]),([6],[6]),([],[]),([8],[8]),([9],[9]),([10],[10]),([3,0,1,2,3],[3]),([7,12,0,1,2,3,4,5,6,7,12],[7]),([11,13,0,1,2,3,4,5,6,7,8,9,10,11,12,13],[11])])
def impl_goalShape.B1:List Nat:=[0,1,3,7,0,16,48,112,0,256,768,1792,15,4351,16383]
theorem impl_goalShape.tab1:rtab .any (opsOf Tryz.f38 1)=impl_goalShape.T1:=by kernel_rfl
theorem impl_goalShape.bits1:waitsOk impl_goalShape.T1.2 impl_goalShape.B1=true:=by kernel_rfl
def impl_goalShape.T9:Bool × List (List Nat × List Nat):=(true,[([],[]),([0],[0]),([1],[1]),([2,2],[2]),([3],[3]),([3],[3]),([5,3],[3,5]),([4,6,3,3],[3,4,6]),([3,7],[3,7]),([],[]),([9],[9]),([10,7],[10]),([11,11],[11]),([12],[12]),([12],[12]),([14,12],[12,14]),([13,15,12,12],[12,13,15]),([12,16],[12,16]),([8,16,0,1,2,3,4,5,6,7,8],[8]),([17,18,0,1,2,3,4,5,6,7,8,9,10,11,12,13,14,15,16,17,18],[17])])
def impl_goalShape.B9:List Nat:=[0,1,3,7,15,15,47,127,255,0,512,1791,3839,7935,7935,24319,65279,130815,131071,524287]
theorem impl_goalShape.tab9:rtab .any (opsOf Tryz.f38 9)=impl_goalShape.T9:=by kernel_rfl
theorem impl_goalShape.bits9:waitsOk impl_goalShape.T9.2 impl_goalShape.B9=true:=by kernel_rfl
def impl_goalShape.T11:Bool × List (List Nat × List Nat):=(true,[([],[]),([0],[0]),([1],[1]),([2,2],[2]),([3],[3]),([3],[3]),([5,3],[3,5]),([4,6,3,3],[3,4,6]),([3,7],[3,7]),([],[]),([9],[9]),([10,7],[10]),([11,11],[11]),([12],[12]),([12],[12]),([14,12],[12,14]),([13,15,12,12],[12,13,15]),([12,16],[12,16]),([],[]),([18],[18]),([19,16],[19]),([20,20],[20]),([21],[21]),([21],[21]),([23,21],[21,23]),([22,24,21,21],[21,22,24]),([21,25],[21,25]),([8,25,0,1,2,3,4,5,6,7,8],[8]),([17,27,0,1,2,3,4,5,6,7,8,9,10,11,12,13,14,15,16,17,27],[17]),([26,28,0,1,2,3,4,5,6,7,8,9,10,11,12,13,14,15,16,17,18,19,20,21,22,23,24,25,26,27,28],[26])])
def impl_goalShape.B11:List Nat:=[0,1,3,7,15,15,47,127,255,0,512,1791,3839,7935,7935,24319,65279,130815,0,262144,917247,1965823,4062975,4062975,12451583,33423103,66977535,66977791,201326591,536870911]
theorem impl_goalShape.tab11:rtab .any (opsOf Tryz.f38 11)=impl_goalShape.T11:=by kernel_rfl
theorem impl_goalShape.bits11:waitsOk impl_goalShape.T11.2 impl_goalShape.B11=true:=by kernel_rfl
set_option maxHeartbeats 40000000 in
set_option maxRecDepth 100000 in
theorem impl_goalShape.calls (a0_0:Int) (A0_1:Option Addr) (c0_1:Nat) (l0_1:List (S63)) (A0_2:Option Addr) (c0_2:Nat) (l0_2:List (S63)) (A0_3:Option Addr) (c0_3:Nat) (l0_3:List (S63)) (r:Bool) (w:World) (hr0_1:Kd.C k63 w A0_1 l0_1.length l0_1) (hc0_1:l0_1.length≤c0_1) (hr0_2:Kd.C k63 w A0_2 l0_2.length l0_2) (hc0_2:l0_2.length≤c0_2) (hr0_3:Kd.C k63 w A0_3 l0_3.length l0_3) (hc0_3:l0_3.length≤c0_3) (h:impl_goalShape.f a0_0 l0_1 l0_2 l0_3=some r) :
  Calls Tryz.prog 38 #[.agg #[.int .i64 a0_0,.slice A0_1 l0_1.length c0_1,.slice A0_2 l0_2.length c0_2,.slice A0_3 l0_3.length c0_3],.func (.func 39) #[] #[]] w fun e w'=>e = .returned (.bool r)∧Below w.heap.size w w':=by
 have hu46:=Tryz.underlying24;have HR0_1:=Aside0.mk hr0_1;have HC0_1:=Aside0.mk hc0_1;clear hr0_1 hc0_1;have HR0_2:=Aside0.mk hr0_2;have HC0_2:=Aside0.mk hc0_2;clear hr0_2 hc0_2;have HR0_3:=Aside0.mk hr0_3;have HC0_3:=Aside0.mk hc0_3;clear hr0_3 hc0_3;have HB:=Aside0.mk (Below.refl w.heap.size w);have HtA:=Aside0.mk (show impl_TrmOk.f l0_1=some (Cat.isTerm l0_1) from rfl);have HtB:=Aside0.mk (show impl_TrmOk.f l0_2=some (Cat.isTerm l0_2) from rfl);have HtC:=Aside0.mk (show impl_TrmOk.f l0_3=some (Cat.isTerm l0_3) from rfl);have HtD:=Aside0.mk (called_pure l0_1);have HmA:=Aside0.mk (inClause_pure l0_1);have HmB:=Aside0.mk (inClause_pure l0_2);have HmC:=Aside0.mk (inClause_pure l0_3);have HR0_:=Aside0.mk (Option.some.inj h).symm;clear h;unfold shapeOk at HR0_
 generalize Cat.isTerm l0_1=tA at HtA HR0_
 generalize Cat.isTerm l0_2=tB at HtB HR0_
 generalize Cat.isTerm l0_3=tC at HtC HR0_
 generalize Cat.called l0_1=tD at HtD HR0_
 generalize Cat.inCl l0_1=mA at HmA HR0_
 generalize Cat.inCl l0_2=mB at HmB HR0_
 generalize Cat.inCl l0_3=mC at HmC HR0_
 go_enter Tryz.func38,Tryz.ntmps38;(try go_wp2_with (first|((with_reducible refine gate_dst (N:=2) rfl ?_);refine box_event ?hg (N:=2) ?hd (cs:=#[.int .i64 a0_0,.slice A0_1 l0_1.length c0_1,.slice A0_2 l0_2.length c0_2,.slice A0_3 l0_3.length c0_3]) (t:=24) ?hr ?_;(case hd=>rfl);(case hg=>rfl);(case hr=>first|(go_simp;done)|(go_simp;rfl));intro gb166 hg w3 hbox hb;have n_:=as3 (below_step qz3 hb) (hbox) ((by rw [hg];exact (below_size qz3):w.heap.size≤gb166));clear HB;obtain ⟨HB,BK166,GE166⟩:=n_;clear hb hbox hg)));have n_:=as2 (blk_drew BK166.out) (below_drew1 HB.out);clear BK166 HB;obtain ⟨BK166,HB⟩:=n_;refine start_ (n:=15) (S:=fun w'=>w'.cell? ⟨gb166,0,none⟩=some (.int .i64 a0_0)∧w'.cell? ⟨gb166,1,none⟩=some (.slice A0_1 l0_1.length c0_1)∧w'.cell? ⟨gb166,2,none⟩=some (.slice A0_2 l0_2.length c0_2)∧w'.cell? ⟨gb166,3,none⟩=some (.slice A0_3 l0_3.length c0_3)) (ds:=[]) #[false,false,false,false,false,false,false,false,false,false,false,false,false,false,false] (by kernel_rfl) rfl rfl ⟨(blk_cell BK166.out 0).trans rfl,(blk_cell BK166.out 1).trans rfl,(blk_cell BK166.out 2).trans rfl,(blk_cell BK166.out 3).trans rfl⟩ (fun hHeld=>?_);refine with_tabW impl_goalShape.tab1 impl_goalShape.bits1 (fun HT_ HW_=>?_)
 generalize w3.drew=w4 at BK166 HB hHeld ⊢
 refine pure_ (i:=0) (N:=some 8) (v:=?_) (a':=?_) #[true,false,false,false,false,false,false,false,false,false,false,false,false,false,false] rfl rfl (any_of HT_.out (by kernel_rfl)) (fun _ _ _ h=>h) (Or.inl ⟨by rfl,?_⟩) ?_ ?_;rotate_left
 ·intro w'
  go_simp;with_reducible rfl
 rotate_left
 ·simp only [Act.put,sA_,sZ_,sS_,i64_w,i32_w]
  rfl
 refine pure_ (i:=4) (N:=some 12) (v:=?_) (a':=?_) #[true,false,false,false,true,false,false,false,false,false,false,false,false,false,false] rfl rfl (any_of HT_.out (by kernel_rfl)) (fun _ _ _ h=>h) (Or.inl ⟨by rfl,?_⟩) ?_ ?_;rotate_left
 ·intro w'
  go_simp;with_reducible rfl
 rotate_left
 ·simp only [Act.put,sA_,sZ_,sS_,i64_w,i32_w]
  rfl
 refine pure_ (i:=8) (N:=some 16) (v:=?_) (a':=?_) #[true,false,false,false,true,false,false,false,true,false,false,false,false,false,false] rfl rfl (any_of HT_.out (by kernel_rfl)) (fun _ _ _ h=>h) (Or.inl ⟨by rfl,?_⟩) ?_ ?_;rotate_left
 ·intro w'
  go_simp;with_reducible rfl
 rotate_left
 ·simp only [Act.put,sA_,sZ_,sS_,i64_w,i32_w]
  rfl
 refine take_ (i:=1) (N:=some 9) (v:=?_) (a':=?_) #[true,true,false,false,true,false,false,false,true,false,false,false,false,false,false] rfl rfl (take_ofW HT_.out HW_.out (by kernel_rfl)) (fun _ _ _ h=>h) (Or.inl ⟨by rfl,?_⟩) hHeld ?_ ?_;rotate_left
 ·rintro w' ⟨s0,s1,s2,s3⟩
  go_simp;with_reducible rfl
 rotate_left
 ·simp only [Act.put,sA_,sZ_,sS_,i64_w,i32_w]
  rfl
 refine pure_ (i:=2) (N:=some 10) (v:=?_) (a':=?_) #[true,true,true,false,true,false,false,false,true,false,false,false,false,false,false] rfl rfl (any_of HT_.out (by kernel_rfl)) (fun _ _ _ h=>h) (Or.inl ⟨by rfl,?_⟩) ?_ ?_;rotate_left
 ·intro w'
  go_simp;with_reducible rfl
 rotate_left
 ·simp only [Act.put,sA_,sZ_,sS_,i64_w,i32_w]
  rfl
 refine pure_ (i:=3) (N:=some 11) (v:=?_) (a':=?_) #[true,true,true,true,true,false,false,false,true,false,false,false,false,false,false] rfl rfl (any_of HT_.out (by kernel_rfl)) (fun _ _ _ h=>h) (Or.inl ⟨by rfl,?_⟩) ?_ ?_;rotate_left
 ·intro w'
  go_simp;with_reducible rfl
 rotate_left
 ·simp only [Act.put,sA_,sZ_,sS_,i64_w,i32_w]
  rfl
 refine pure_ (i:=12) (N:=some 5) (v:=?_) (a':=?_) #[true,true,true,true,true,false,false,false,true,false,false,false,true,false,false] rfl rfl (any_of HT_.out (by kernel_rfl)) (fun _ _ _ h=>h) (Or.inl ⟨by rfl,?_⟩) ?_ ?_;rotate_left
 ·intro w'
  go_simp;with_reducible rfl
 rotate_left
 ·simp only [Act.put,sA_,sZ_,sS_,i64_w,i32_w]
  rfl
 refine take_ (i:=5) (N:=some 13) (v:=?_) (a':=?_) #[true,true,true,true,true,true,false,false,true,false,false,false,true,false,false] rfl rfl (take_ofW HT_.out HW_.out (by kernel_rfl)) (fun _ _ _ h=>h) (Or.inl ⟨by rfl,?_⟩) hHeld ?_ ?_;rotate_left
 ·rintro w' ⟨s0,s1,s2,s3⟩
  go_simp;with_reducible rfl
 rotate_left
 ·simp only [Act.put,sA_,sZ_,sS_,i64_w,i32_w]
  rfl
 refine pure_ (i:=6) (N:=some 14) (v:=?_) (a':=?_) #[true,true,true,true,true,true,true,false,true,false,false,false,true,false,false] rfl rfl (any_of HT_.out (by kernel_rfl)) (fun _ _ _ h=>h) (Or.inl ⟨by rfl,?_⟩) ?_ ?_;rotate_left
 ·intro w'
  go_simp;with_reducible rfl
 rotate_left
 ·simp only [Act.put,sA_,sZ_,sS_,i64_w,i32_w]
  rfl
 refine pure_ (i:=7) (N:=some 15) (v:=?_) (a':=?_) #[true,true,true,true,true,true,true,true,true,false,false,false,true,false,false] rfl rfl (any_of HT_.out (by kernel_rfl)) (fun _ _ _ h=>h) (Or.inl ⟨by rfl,?_⟩) ?_ ?_;rotate_left
 ·intro w'
  go_simp;with_reducible rfl
 rotate_left
 ·simp only [Act.put,sA_,sZ_,sS_,i64_w,i32_w]
  rfl
 refine pure_ (i:=13) (N:=some 6) (v:=?_) (a':=?_) #[true,true,true,true,true,true,true,true,true,false,false,false,true,true,false] rfl rfl (any_of HT_.out (by kernel_rfl)) (fun _ _ _ h=>h) (Or.inl ⟨by rfl,?_⟩) ?_ ?_;rotate_left
 ·intro w'
  go_simp;with_reducible rfl
 rotate_left
 ·simp only [Act.put,sA_,sZ_,sS_,i64_w,i32_w]
  rfl
 refine take_ (i:=9) (N:=some 17) (v:=?_) (a':=?_) #[true,true,true,true,true,true,true,true,true,true,false,false,true,true,false] rfl rfl (take_ofW HT_.out HW_.out (by kernel_rfl)) (fun _ _ _ h=>h) (Or.inl ⟨by rfl,?_⟩) hHeld ?_ ?_;rotate_left
 ·rintro w' ⟨s0,s1,s2,s3⟩
  go_simp;with_reducible rfl
 rotate_left
 ·simp only [Act.put,sA_,sZ_,sS_,i64_w,i32_w]
  rfl
 refine pure_ (i:=10) (N:=some 18) (v:=?_) (a':=?_) #[true,true,true,true,true,true,true,true,true,true,true,false,true,true,false] rfl rfl (any_of HT_.out (by kernel_rfl)) (fun _ _ _ h=>h) (Or.inl ⟨by rfl,?_⟩) ?_ ?_;rotate_left
 ·intro w'
  go_simp;with_reducible rfl
 rotate_left
 ·simp only [Act.put,sA_,sZ_,sS_,i64_w,i32_w]
  rfl
 refine pure_ (i:=11) (N:=some 19) (v:=?_) (a':=?_) #[true,true,true,true,true,true,true,true,true,true,true,true,true,true,false] rfl rfl (any_of HT_.out (by kernel_rfl)) (fun _ _ _ h=>h) (Or.inl ⟨by rfl,?_⟩) ?_ ?_;rotate_left
 ·intro w'
  go_simp;with_reducible rfl
 rotate_left
 ·simp only [Act.put,sA_,sZ_,sS_,i64_w,i32_w]
  rfl
 refine pure_ (i:=14) (N:=some 7) (v:=?_) (a':=?_) #[true,true,true,true,true,true,true,true,true,true,true,true,true,true,true] rfl rfl (any_of HT_.out (by kernel_rfl)) (fun _ _ _ h=>h) (Or.inl ⟨by rfl,?_⟩) ?_ ?_;rotate_left
 ·intro w'
  go_simp;with_reducible rfl
 rotate_left
 ·simp only [Act.put,sA_,sZ_,sS_,i64_w,i32_w]
  rfl
 refine done_ (done_of HT_.out (by kernel_rfl)) ?_;obtain ⟨hcz5_0,hcz5_1,hcz5_2,hcz5_3,hfz5_0,hfz5_1,hfz5_2,hfz5_3⟩:=blk4 BK166.out;go_upto_block 0 with (fail)
 go_cut [5,6,7] (fun v5 v6 v7 wc=>∃ a b c:Bool,v5 = .bool a∧v6 = .bool b∧v7 = .bool c∧Aside0 (r=(a && (b && c)))∧Aside0 (Below w.heap.size w wc))
 case first=>
  by_cases h1:a0_0=1
  ·have HR_:=Aside0.mk (HR0_.out.trans (if_pos (.inl h1)))
   have e1_:(a0_0 == 1)=true:=beq_iff_eq.mpr h1;clear HR0_ h1;cases tD
   all_goals
    go_wp2_with (first|(go_at_call 64;(with_reducible refine (impl_called.calls _ _ l0_1 _ _ ?side1 ?side2 HtD.out).mono ?_);(case side1=>exact qz8);(case side2=>exact HC0_1.out);rintro e w14 ⟨rfl,hb⟩;have n_:=as2 (blk_below (blkp BK166.out) hb) (below_step qz11 hb);clear BK166 HB;obtain ⟨BK166,HB⟩:=n_;clear hb;obtain ⟨hcz15_0,hcz15_1,hcz15_2,hcz15_3,hfz15_0,hfz15_1,hfz15_2,hfz15_3⟩:=blk4 BK166.out)|((first|go_at_call 39|go_at_fn 39);(with_reducible refine (impl_inClause.calls _ _ l0_1 _ _ ?side1 ?side2 HmA.out).mono ?_);(case side1=>exact qz8);(case side2=>exact HC0_1.out);rintro e w16 ⟨rfl,hb⟩;have n_:=as2 (blk_below (blkp BK166.out) hb) (below_step qz11 hb);clear BK166 HB;obtain ⟨BK166,HB⟩:=n_;clear hb))
    (try go_wp2);go_meet
    case rel=>exact ⟨_,_,_,rfl,rfl,rfl,⟨HR_.out⟩,⟨qz11⟩⟩
  by_cases h6:a0_0=6
  ·have HR_:=Aside0.mk (HR0_.out.trans (if_pos (.inr h6)))
   have e1_:(a0_0 == 1)=false:=beq_eq_false_iff_ne.mpr h1;have e6_:(a0_0 == 6)=true:=beq_iff_eq.mpr h6;clear HR0_ h1 h6;cases tD
   all_goals
    go_wp2_with (first|(go_at_call 64;(with_reducible refine (impl_called.calls _ _ l0_1 _ _ ?side1 ?side2 HtD.out).mono ?_);(case side1=>exact qz8);(case side2=>exact HC0_1.out);rintro e w14 ⟨rfl,hb⟩;have n_:=as2 (blk_below (blkp BK166.out) hb) (below_step qz11 hb);clear BK166 HB;obtain ⟨BK166,HB⟩:=n_;clear hb;obtain ⟨hcz15_0,hcz15_1,hcz15_2,hcz15_3,hfz15_0,hfz15_1,hfz15_2,hfz15_3⟩:=blk4 BK166.out)|((first|go_at_call 39|go_at_fn 39);(with_reducible refine (impl_inClause.calls _ _ l0_1 _ _ ?side1 ?side2 HmA.out).mono ?_);(case side1=>exact qz8);(case side2=>exact HC0_1.out);rintro e w16 ⟨rfl,hb⟩;have n_:=as2 (blk_below (blkp BK166.out) hb) (below_step qz11 hb);clear BK166 HB;obtain ⟨BK166,HB⟩:=n_;clear hb))
    (try go_wp2);go_meet
    case rel=>exact ⟨_,_,_,rfl,rfl,rfl,⟨HR_.out⟩,⟨qz11⟩⟩
  by_cases h2:a0_0=2
  ·have HR_:=Aside0.mk (HR0_.out.trans ((if_neg (fun e=>e.elim h1 h6)).trans (if_pos (.inl h2))))
   have e1_:(a0_0 == 1)=false:=beq_eq_false_iff_ne.mpr h1;have e6_:(a0_0 == 6)=false:=beq_eq_false_iff_ne.mpr h6;have e2_:(a0_0 == 2)=true:=beq_iff_eq.mpr h2;clear HR0_ h1 h6 h2;cases tA <;> cases tB
   all_goals
    (try go_wp2);have n_:=as2 (blk_drew BK166.out) (below_drew1 HB.out);clear BK166 HB;obtain ⟨BK166,HB⟩:=n_;refine start_ (n:=20) (S:=fun w'=>w'.cell? ⟨gb166,0,none⟩=some (.int .i64 a0_0)∧w'.cell? ⟨gb166,1,none⟩=some (.slice A0_1 l0_1.length c0_1)∧w'.cell? ⟨gb166,2,none⟩=some (.slice A0_2 l0_2.length c0_2)∧w'.cell? ⟨gb166,3,none⟩=some (.slice A0_3 l0_3.length c0_3)) (ds:=[]) #[false,false,false,false,false,false,false,false,false,false,false,false,false,false,false,false,false,false,false,false] (by kernel_rfl) rfl rfl ⟨(blk_cell BK166.out 0).trans rfl,(blk_cell BK166.out 1).trans rfl,(blk_cell BK166.out 2).trans rfl,(blk_cell BK166.out 3).trans rfl⟩ (fun hHeld=>?_);refine with_tabW impl_goalShape.tab9 impl_goalShape.bits9 (fun HT_ HW_=>?_)
    generalize w4.drew=w38 at BK166 HB hHeld ⊢
    refine pure_ (i:=0) (N:=some 37) (v:=?_) (a':=?_) #[true,false,false,false,false,false,false,false,false,false,false,false,false,false,false,false,false,false,false,false] rfl rfl (any_of HT_.out (by kernel_rfl)) (fun _ _ _ h=>h) (Or.inl ⟨by rfl,?_⟩) ?_ ?_;rotate_left;(focus (intro w';go_simp;with_reducible rfl));rotate_left;(focus (simp only [Act.put,sA_,sZ_,sS_,i64_w,i32_w];rfl));refine pure_ (i:=9) (N:=some 46) (v:=?_) (a':=?_) #[true,false,false,false,false,false,false,false,false,true,false,false,false,false,false,false,false,false,false,false] rfl rfl (any_of HT_.out (by kernel_rfl)) (fun _ _ _ h=>h) (Or.inl ⟨by rfl,?_⟩) ?_ ?_;rotate_left;(focus (intro w';go_simp;with_reducible rfl));rotate_left;(focus (simp only [Act.put,sA_,sZ_,sS_,i64_w,i32_w];rfl));refine take_ (i:=1) (N:=some 38) (v:=?_) (a':=?_) #[true,true,false,false,false,false,false,false,false,true,false,false,false,false,false,false,false,false,false,false] rfl rfl (take_ofW HT_.out HW_.out (by kernel_rfl)) (fun _ _ _ h=>h) (Or.inl ⟨by rfl,?_⟩) hHeld ?_ ?_;rotate_left;(focus (rintro w' ⟨s0,s1,s2,s3⟩;go_simp;with_reducible rfl));rotate_left;(focus (simp only [Act.put,sA_,sZ_,sS_,i64_w,i32_w];rfl));refine take_ (i:=10) (N:=some 47) (v:=?_) (a':=?_) #[true,true,false,false,false,false,false,false,false,true,true,false,false,false,false,false,false,false,false,false] rfl rfl (take_ofW HT_.out HW_.out (by kernel_rfl)) (fun _ _ _ h=>h) (Or.inl ⟨by rfl,?_⟩) hHeld ?_ ?_;rotate_left;(focus (rintro w' ⟨s0,s1,s2,s3⟩;go_simp;with_reducible rfl));rotate_left;(focus (simp only [Act.put,sA_,sZ_,sS_,i64_w,i32_w];rfl));refine one_ (i:=2) (N:=some 39) #[true,true,true,false,false,false,false,false,false,true,true,false,false,false,false,false,false,false,false,false] rfl rfl (one_of HT_.out (by kernel_rfl)) (by decide) (fun K hK=>?_);refine goes_ Tryz.func42 (by kernel_rfl) rfl #[.slice A0_1 l0_1.length c0_1] (by rfl) rfl rfl qz22 ?_;with_reducible refine (impl_TrmOk.calls _ _ l0_1 _ _ ?side1 ?side2 HtA.out).mono ?_;(case side1=>exact qz8);(case side2=>exact HC0_1.out);rintro e w39 ⟨rfl,hb⟩;refine ⟨_,rfl,?_⟩;have n_:=as2 (blk_below (blkp BK166.out) hb) (below_step qz11 hb);clear BK166 HB;obtain ⟨BK166,HB⟩:=n_;clear hb;refine hK.out _ _ ⟨(blk_cell BK166.out 0).trans rfl,(blk_cell BK166.out 1).trans rfl,(blk_cell BK166.out 2).trans rfl,(blk_cell BK166.out 3).trans rfl⟩ (fun hHeld=>?_);clear hK K;refine norm_ (a':=?_) ?_ ?_;rotate_left;(focus (show Act.put _ (some 39) _=_;simp only [Act.put,sA_,sZ_,sS_,i64_w,i32_w];rfl))
    refine pure_ (i:=3) (N:=some 40) (v:=?_) (a':=?_) #[true,true,true,true,false,false,false,false,false,true,true,false,false,false,false,false,false,false,false,false] rfl rfl (any_of HT_.out (by kernel_rfl)) (fun _ _ _ h=>h) (Or.inl ⟨by rfl,?_⟩) ?_ ?_;rotate_left;(focus (intro w';go_simp;with_reducible rfl));rotate_left;(focus (simp only [Act.put,sA_,sZ_,sS_,i64_w,i32_w];rfl));(first|(refine pure_ (i:=4) (N:=some 41) (v:=?_) (a':=?_) #[true,true,true,true,true,false,false,false,false,true,true,false,false,false,false,false,false,false,false,false] rfl rfl (any_of HT_.out (by kernel_rfl)) (fun _ _ _ h=>h) (Or.inl ⟨by rfl,?_⟩) ?_ ?_;rotate_left;(focus (intro w';go_simp;with_reducible rfl));rotate_left;(focus (simp only [Act.put,sA_,sZ_,sS_,i64_w,i32_w];rfl)))|(refine pure_ (i:=4) (N:=some 41) (v:=undef) (a':=?_) #[true,true,true,true,true,false,false,false,false,true,true,false,false,false,false,false,false,false,false,false] rfl rfl (any_of HT_.out (by kernel_rfl)) (fun _ _ _ h=>h) (Or.inr ⟨by rfl,rfl⟩) ?_ ?_;rotate_left;(focus (simp only [Act.put,sA_,sZ_,sS_,i64_w,i32_w];rfl))));(first|(refine pure_ (i:=5) (N:=some 42) (v:=?_) (a':=?_) #[true,true,true,true,true,true,false,false,false,true,true,false,false,false,false,false,false,false,false,false] rfl rfl (any_of HT_.out (by kernel_rfl)) (fun _ _ _ h=>h) (Or.inl ⟨by rfl,?_⟩) ?_ ?_;rotate_left;(focus (intro w';go_simp;with_reducible rfl));rotate_left;(focus (simp only [Act.put,sA_,sZ_,sS_,i64_w,i32_w];rfl)))|(refine pure_ (i:=5) (N:=some 42) (v:=undef) (a':=?_) #[true,true,true,true,true,true,false,false,false,true,true,false,false,false,false,false,false,false,false,false] rfl rfl (any_of HT_.out (by kernel_rfl)) (fun _ _ _ h=>h) (Or.inr ⟨by rfl,rfl⟩) ?_ ?_;rotate_left;(focus (simp only [Act.put,sA_,sZ_,sS_,i64_w,i32_w];rfl))));(first|(refine take_ (i:=6) (N:=some 43) (v:=?_) (a':=?_) #[true,true,true,true,true,true,true,false,false,true,true,false,false,false,false,false,false,false,false,false] rfl rfl (take_ofW HT_.out HW_.out (by kernel_rfl)) (fun _ _ _ h=>h) (Or.inl ⟨by rfl,?_⟩) hHeld ?_ ?_;rotate_left;(focus (rintro w' ⟨s0,s1,s2,s3⟩;go_simp;with_reducible rfl));rotate_left;(focus (simp only [Act.put,sA_,sZ_,sS_,i64_w,i32_w];rfl)))|(refine pure_ (i:=6) (N:=some 43) (v:=undef) (a':=?_) #[true,true,true,true,true,true,true,false,false,true,true,false,false,false,false,false,false,false,false,false] rfl rfl (any_of HT_.out (by kernel_rfl)) (fun _ _ _ h=>h) (Or.inr ⟨by rfl,rfl⟩) ?_ ?_;rotate_left;(focus (simp only [Act.put,sA_,sZ_,sS_,i64_w,i32_w];rfl))));(first|(refine one_ (i:=7) (N:=some 44) #[true,true,true,true,true,true,true,true,false,true,true,false,false,false,false,false,false,false,false,false] rfl rfl (one_of HT_.out (by kernel_rfl)) (by decide) (fun K hK=>?_);refine goesF_ Tryz.func39 (by kernel_rfl) rfl #[.slice A0_1 l0_1.length c0_1] (by rfl) rfl rfl (by rfl) qz22 ?_;with_reducible refine (impl_inClause.calls _ _ l0_1 _ _ ?side1 ?side2 HmA.out).mono ?_;(case side1=>exact qz8);(case side2=>exact HC0_1.out);rintro e w40 ⟨rfl,hb⟩;refine ⟨_,rfl,?_⟩;have n_:=as2 (blk_below (blkp BK166.out) hb) (below_step qz11 hb);clear BK166 HB;obtain ⟨BK166,HB⟩:=n_;clear hb;refine hK.out _ _ ⟨(blk_cell BK166.out 0).trans rfl,(blk_cell BK166.out 1).trans rfl,(blk_cell BK166.out 2).trans rfl,(blk_cell BK166.out 3).trans rfl⟩ (fun hHeld=>?_);clear hK K;refine norm_ (a':=?_) ?_ ?_;rotate_left;(focus (show Act.put _ (some 44) _=_;simp only [Act.put,sA_,sZ_,sS_,i64_w,i32_w];rfl)))|(refine pure_ (i:=7) (N:=some 44) (v:=undef) (a':=?_) #[true,true,true,true,true,true,true,true,false,true,true,false,false,false,false,false,false,false,false,false] rfl rfl (any_of HT_.out (by kernel_rfl)) (fun _ _ _ h=>h) (Or.inr ⟨by rfl,rfl⟩) ?_ ?_;rotate_left;(focus (simp only [Act.put,sA_,sZ_,sS_,i64_w,i32_w];rfl))))
    refine pure_ (i:=8) (N:=some 45) (v:=?_) (a':=?_) #[true,true,true,true,true,true,true,true,true,true,true,false,false,false,false,false,false,false,false,false] rfl rfl (any_of HT_.out (by kernel_rfl)) (fun _ _ _ h=>h) (Or.inl ⟨by rfl,?_⟩) ?_ ?_;rotate_left;(focus (intro w';go_simp;with_reducible rfl));rotate_left;(focus (simp only [Act.put,sA_,sZ_,sS_,i64_w,i32_w];rfl));refine one_ (i:=11) (N:=some 48) #[true,true,true,true,true,true,true,true,true,true,true,true,false,false,false,false,false,false,false,false] rfl rfl (one_of HT_.out (by kernel_rfl)) (by decide) (fun K hK=>?_);refine goes_ Tryz.func42 (by kernel_rfl) rfl #[.slice A0_2 l0_2.length c0_2] (by rfl) rfl rfl qz22 ?_;with_reducible refine (impl_TrmOk.calls _ _ l0_2 _ _ ?side1 ?side2 HtB.out).mono ?_;(case side1=>exact qz18);(case side2=>exact HC0_2.out);rintro e w41 ⟨rfl,hb⟩;refine ⟨_,rfl,?_⟩;have n_:=as2 (blk_below (blkp BK166.out) hb) (below_step qz11 hb);clear BK166 HB;obtain ⟨BK166,HB⟩:=n_;clear hb;refine hK.out _ _ ⟨(blk_cell BK166.out 0).trans rfl,(blk_cell BK166.out 1).trans rfl,(blk_cell BK166.out 2).trans rfl,(blk_cell BK166.out 3).trans rfl⟩ (fun hHeld=>?_);clear hK K;refine norm_ (a':=?_) ?_ ?_;rotate_left;(focus (show Act.put _ (some 48) _=_;simp only [Act.put,sA_,sZ_,sS_,i64_w,i32_w];rfl))
    refine pure_ (i:=12) (N:=some 49) (v:=?_) (a':=?_) #[true,true,true,true,true,true,true,true,true,true,true,true,true,false,false,false,false,false,false,false] rfl rfl (any_of HT_.out (by kernel_rfl)) (fun _ _ _ h=>h) (Or.inl ⟨by rfl,?_⟩) ?_ ?_;rotate_left;(focus (intro w';go_simp;with_reducible rfl));rotate_left;(focus (simp only [Act.put,sA_,sZ_,sS_,i64_w,i32_w];rfl));(first|(refine pure_ (i:=13) (N:=some 50) (v:=?_) (a':=?_) #[true,true,true,true,true,true,true,true,true,true,true,true,true,true,false,false,false,false,false,false] rfl rfl (any_of HT_.out (by kernel_rfl)) (fun _ _ _ h=>h) (Or.inl ⟨by rfl,?_⟩) ?_ ?_;rotate_left;(focus (intro w';go_simp;with_reducible rfl));rotate_left;(focus (simp only [Act.put,sA_,sZ_,sS_,i64_w,i32_w];rfl)))|(refine pure_ (i:=13) (N:=some 50) (v:=undef) (a':=?_) #[true,true,true,true,true,true,true,true,true,true,true,true,true,true,false,false,false,false,false,false] rfl rfl (any_of HT_.out (by kernel_rfl)) (fun _ _ _ h=>h) (Or.inr ⟨by rfl,rfl⟩) ?_ ?_;rotate_left;(focus (simp only [Act.put,sA_,sZ_,sS_,i64_w,i32_w];rfl))));(first|(refine pure_ (i:=14) (N:=some 51) (v:=?_) (a':=?_) #[true,true,true,true,true,true,true,true,true,true,true,true,true,true,true,false,false,false,false,false] rfl rfl (any_of HT_.out (by kernel_rfl)) (fun _ _ _ h=>h) (Or.inl ⟨by rfl,?_⟩) ?_ ?_;rotate_left;(focus (intro w';go_simp;with_reducible rfl));rotate_left;(focus (simp only [Act.put,sA_,sZ_,sS_,i64_w,i32_w];rfl)))|(refine pure_ (i:=14) (N:=some 51) (v:=undef) (a':=?_) #[true,true,true,true,true,true,true,true,true,true,true,true,true,true,true,false,false,false,false,false] rfl rfl (any_of HT_.out (by kernel_rfl)) (fun _ _ _ h=>h) (Or.inr ⟨by rfl,rfl⟩) ?_ ?_;rotate_left;(focus (simp only [Act.put,sA_,sZ_,sS_,i64_w,i32_w];rfl))));(first|(refine take_ (i:=15) (N:=some 52) (v:=?_) (a':=?_) #[true,true,true,true,true,true,true,true,true,true,true,true,true,true,true,true,false,false,false,false] rfl rfl (take_ofW HT_.out HW_.out (by kernel_rfl)) (fun _ _ _ h=>h) (Or.inl ⟨by rfl,?_⟩) hHeld ?_ ?_;rotate_left;(focus (rintro w' ⟨s0,s1,s2,s3⟩;go_simp;with_reducible rfl));rotate_left;(focus (simp only [Act.put,sA_,sZ_,sS_,i64_w,i32_w];rfl)))|(refine pure_ (i:=15) (N:=some 52) (v:=undef) (a':=?_) #[true,true,true,true,true,true,true,true,true,true,true,true,true,true,true,true,false,false,false,false] rfl rfl (any_of HT_.out (by kernel_rfl)) (fun _ _ _ h=>h) (Or.inr ⟨by rfl,rfl⟩) ?_ ?_;rotate_left;(focus (simp only [Act.put,sA_,sZ_,sS_,i64_w,i32_w];rfl))));(first|(refine one_ (i:=16) (N:=some 53) #[true,true,true,true,true,true,true,true,true,true,true,true,true,true,true,true,true,false,false,false] rfl rfl (one_of HT_.out (by kernel_rfl)) (by decide) (fun K hK=>?_);refine goesF_ Tryz.func39 (by kernel_rfl) rfl #[.slice A0_2 l0_2.length c0_2] (by rfl) rfl rfl (by rfl) qz22 ?_;with_reducible refine (impl_inClause.calls _ _ l0_2 _ _ ?side1 ?side2 HmB.out).mono ?_;(case side1=>exact qz18);(case side2=>exact HC0_2.out);rintro e w42 ⟨rfl,hb⟩;refine ⟨_,rfl,?_⟩;have n_:=as2 (blk_below (blkp BK166.out) hb) (below_step qz11 hb);clear BK166 HB;obtain ⟨BK166,HB⟩:=n_;clear hb;refine hK.out _ _ ⟨(blk_cell BK166.out 0).trans rfl,(blk_cell BK166.out 1).trans rfl,(blk_cell BK166.out 2).trans rfl,(blk_cell BK166.out 3).trans rfl⟩ (fun hHeld=>?_);clear hK K;refine norm_ (a':=?_) ?_ ?_;rotate_left;(focus (show Act.put _ (some 53) _=_;simp only [Act.put,sA_,sZ_,sS_,i64_w,i32_w];rfl)))|(refine pure_ (i:=16) (N:=some 53) (v:=undef) (a':=?_) #[true,true,true,true,true,true,true,true,true,true,true,true,true,true,true,true,true,false,false,false] rfl rfl (any_of HT_.out (by kernel_rfl)) (fun _ _ _ h=>h) (Or.inr ⟨by rfl,rfl⟩) ?_ ?_;rotate_left;(focus (simp only [Act.put,sA_,sZ_,sS_,i64_w,i32_w];rfl))))
    refine pure_ (i:=17) (N:=some 54) (v:=?_) (a':=?_) #[true,true,true,true,true,true,true,true,true,true,true,true,true,true,true,true,true,true,false,false] rfl rfl (any_of HT_.out (by kernel_rfl)) (fun _ _ _ h=>h) (Or.inl ⟨by rfl,?_⟩) ?_ ?_;rotate_left;(focus (intro w';go_simp;with_reducible rfl));rotate_left;(focus (simp only [Act.put,sA_,sZ_,sS_,i64_w,i32_w];rfl));refine pure_ (i:=18) (N:=some 5) (v:=?_) (a':=?_) #[true,true,true,true,true,true,true,true,true,true,true,true,true,true,true,true,true,true,true,false] rfl rfl (any_of HT_.out (by kernel_rfl)) (fun _ _ _ h=>h) (Or.inl ⟨by rfl,?_⟩) ?_ ?_;rotate_left;(focus (intro w';go_simp;with_reducible rfl));rotate_left;(focus (simp only [Act.put,sA_,sZ_,sS_,i64_w,i32_w];rfl));refine pure_ (i:=19) (N:=some 6) (v:=?_) (a':=?_) #[true,true,true,true,true,true,true,true,true,true,true,true,true,true,true,true,true,true,true,true] rfl rfl (any_of HT_.out (by kernel_rfl)) (fun _ _ _ h=>h) (Or.inl ⟨by rfl,?_⟩) ?_ ?_;rotate_left;(focus (intro w';go_simp;with_reducible rfl));rotate_left;(focus (simp only [Act.put,sA_,sZ_,sS_,i64_w,i32_w];rfl));refine done_ (done_of HT_.out (by kernel_rfl)) ?_;(try go_wp2);go_meet
    case rel=>exact ⟨_,_,_,rfl,rfl,rfl,⟨HR_.out⟩,⟨qz11⟩⟩
  by_cases h4:a0_0=4
  ·have HR_:=Aside0.mk (HR0_.out.trans ((if_neg (fun e=>e.elim h1 h6)).trans (if_pos (.inr h4))))
   have e1_:(a0_0 == 1)=false:=beq_eq_false_iff_ne.mpr h1;have e6_:(a0_0 == 6)=false:=beq_eq_false_iff_ne.mpr h6;have e2_:(a0_0 == 2)=false:=beq_eq_false_iff_ne.mpr h2;have e4_:(a0_0 == 4)=true:=beq_iff_eq.mpr h4;clear HR0_ h1 h6 h2 h4;cases tA <;> cases tB
   all_goals
    (try go_wp2);have n_:=as2 (blk_drew BK166.out) (below_drew1 HB.out);clear BK166 HB;obtain ⟨BK166,HB⟩:=n_;refine start_ (n:=20) (S:=fun w'=>w'.cell? ⟨gb166,0,none⟩=some (.int .i64 a0_0)∧w'.cell? ⟨gb166,1,none⟩=some (.slice A0_1 l0_1.length c0_1)∧w'.cell? ⟨gb166,2,none⟩=some (.slice A0_2 l0_2.length c0_2)∧w'.cell? ⟨gb166,3,none⟩=some (.slice A0_3 l0_3.length c0_3)) (ds:=[]) #[false,false,false,false,false,false,false,false,false,false,false,false,false,false,false,false,false,false,false,false] (by kernel_rfl) rfl rfl ⟨(blk_cell BK166.out 0).trans rfl,(blk_cell BK166.out 1).trans rfl,(blk_cell BK166.out 2).trans rfl,(blk_cell BK166.out 3).trans rfl⟩ (fun hHeld=>?_);refine with_tabW impl_goalShape.tab9 impl_goalShape.bits9 (fun HT_ HW_=>?_)
    generalize w4.drew=w38 at BK166 HB hHeld ⊢
    refine pure_ (i:=0) (N:=some 37) (v:=?_) (a':=?_) #[true,false,false,false,false,false,false,false,false,false,false,false,false,false,false,false,false,false,false,false] rfl rfl (any_of HT_.out (by kernel_rfl)) (fun _ _ _ h=>h) (Or.inl ⟨by rfl,?_⟩) ?_ ?_;rotate_left;(focus (intro w';go_simp;with_reducible rfl));rotate_left;(focus (simp only [Act.put,sA_,sZ_,sS_,i64_w,i32_w];rfl));refine pure_ (i:=9) (N:=some 46) (v:=?_) (a':=?_) #[true,false,false,false,false,false,false,false,false,true,false,false,false,false,false,false,false,false,false,false] rfl rfl (any_of HT_.out (by kernel_rfl)) (fun _ _ _ h=>h) (Or.inl ⟨by rfl,?_⟩) ?_ ?_;rotate_left;(focus (intro w';go_simp;with_reducible rfl));rotate_left;(focus (simp only [Act.put,sA_,sZ_,sS_,i64_w,i32_w];rfl));refine take_ (i:=1) (N:=some 38) (v:=?_) (a':=?_) #[true,true,false,false,false,false,false,false,false,true,false,false,false,false,false,false,false,false,false,false] rfl rfl (take_ofW HT_.out HW_.out (by kernel_rfl)) (fun _ _ _ h=>h) (Or.inl ⟨by rfl,?_⟩) hHeld ?_ ?_;rotate_left;(focus (rintro w' ⟨s0,s1,s2,s3⟩;go_simp;with_reducible rfl));rotate_left;(focus (simp only [Act.put,sA_,sZ_,sS_,i64_w,i32_w];rfl));refine take_ (i:=10) (N:=some 47) (v:=?_) (a':=?_) #[true,true,false,false,false,false,false,false,false,true,true,false,false,false,false,false,false,false,false,false] rfl rfl (take_ofW HT_.out HW_.out (by kernel_rfl)) (fun _ _ _ h=>h) (Or.inl ⟨by rfl,?_⟩) hHeld ?_ ?_;rotate_left;(focus (rintro w' ⟨s0,s1,s2,s3⟩;go_simp;with_reducible rfl));rotate_left;(focus (simp only [Act.put,sA_,sZ_,sS_,i64_w,i32_w];rfl));refine one_ (i:=2) (N:=some 39) #[true,true,true,false,false,false,false,false,false,true,true,false,false,false,false,false,false,false,false,false] rfl rfl (one_of HT_.out (by kernel_rfl)) (by decide) (fun K hK=>?_);refine goes_ Tryz.func42 (by kernel_rfl) rfl #[.slice A0_1 l0_1.length c0_1] (by rfl) rfl rfl qz22 ?_;with_reducible refine (impl_TrmOk.calls _ _ l0_1 _ _ ?side1 ?side2 HtA.out).mono ?_;(case side1=>exact qz8);(case side2=>exact HC0_1.out);rintro e w39 ⟨rfl,hb⟩;refine ⟨_,rfl,?_⟩;have n_:=as2 (blk_below (blkp BK166.out) hb) (below_step qz11 hb);clear BK166 HB;obtain ⟨BK166,HB⟩:=n_;clear hb;refine hK.out _ _ ⟨(blk_cell BK166.out 0).trans rfl,(blk_cell BK166.out 1).trans rfl,(blk_cell BK166.out 2).trans rfl,(blk_cell BK166.out 3).trans rfl⟩ (fun hHeld=>?_);clear hK K;refine norm_ (a':=?_) ?_ ?_;rotate_left;(focus (show Act.put _ (some 39) _=_;simp only [Act.put,sA_,sZ_,sS_,i64_w,i32_w];rfl))
    refine pure_ (i:=3) (N:=some 40) (v:=?_) (a':=?_) #[true,true,true,true,false,false,false,false,false,true,true,false,false,false,false,false,false,false,false,false] rfl rfl (any_of HT_.out (by kernel_rfl)) (fun _ _ _ h=>h) (Or.inl ⟨by rfl,?_⟩) ?_ ?_;rotate_left;(focus (intro w';go_simp;with_reducible rfl));rotate_left;(focus (simp only [Act.put,sA_,sZ_,sS_,i64_w,i32_w];rfl));(first|(refine pure_ (i:=4) (N:=some 41) (v:=?_) (a':=?_) #[true,true,true,true,true,false,false,false,false,true,true,false,false,false,false,false,false,false,false,false] rfl rfl (any_of HT_.out (by kernel_rfl)) (fun _ _ _ h=>h) (Or.inl ⟨by rfl,?_⟩) ?_ ?_;rotate_left;(focus (intro w';go_simp;with_reducible rfl));rotate_left;(focus (simp only [Act.put,sA_,sZ_,sS_,i64_w,i32_w];rfl)))|(refine pure_ (i:=4) (N:=some 41) (v:=undef) (a':=?_) #[true,true,true,true,true,false,false,false,false,true,true,false,false,false,false,false,false,false,false,false] rfl rfl (any_of HT_.out (by kernel_rfl)) (fun _ _ _ h=>h) (Or.inr ⟨by rfl,rfl⟩) ?_ ?_;rotate_left;(focus (simp only [Act.put,sA_,sZ_,sS_,i64_w,i32_w];rfl))));(first|(refine pure_ (i:=5) (N:=some 42) (v:=?_) (a':=?_) #[true,true,true,true,true,true,false,false,false,true,true,false,false,false,false,false,false,false,false,false] rfl rfl (any_of HT_.out (by kernel_rfl)) (fun _ _ _ h=>h) (Or.inl ⟨by rfl,?_⟩) ?_ ?_;rotate_left;(focus (intro w';go_simp;with_reducible rfl));rotate_left;(focus (simp only [Act.put,sA_,sZ_,sS_,i64_w,i32_w];rfl)))|(refine pure_ (i:=5) (N:=some 42) (v:=undef) (a':=?_) #[true,true,true,true,true,true,false,false,false,true,true,false,false,false,false,false,false,false,false,false] rfl rfl (any_of HT_.out (by kernel_rfl)) (fun _ _ _ h=>h) (Or.inr ⟨by rfl,rfl⟩) ?_ ?_;rotate_left;(focus (simp only [Act.put,sA_,sZ_,sS_,i64_w,i32_w];rfl))));(first|(refine take_ (i:=6) (N:=some 43) (v:=?_) (a':=?_) #[true,true,true,true,true,true,true,false,false,true,true,false,false,false,false,false,false,false,false,false] rfl rfl (take_ofW HT_.out HW_.out (by kernel_rfl)) (fun _ _ _ h=>h) (Or.inl ⟨by rfl,?_⟩) hHeld ?_ ?_;rotate_left;(focus (rintro w' ⟨s0,s1,s2,s3⟩;go_simp;with_reducible rfl));rotate_left;(focus (simp only [Act.put,sA_,sZ_,sS_,i64_w,i32_w];rfl)))|(refine pure_ (i:=6) (N:=some 43) (v:=undef) (a':=?_) #[true,true,true,true,true,true,true,false,false,true,true,false,false,false,false,false,false,false,false,false] rfl rfl (any_of HT_.out (by kernel_rfl)) (fun _ _ _ h=>h) (Or.inr ⟨by rfl,rfl⟩) ?_ ?_;rotate_left;(focus (simp only [Act.put,sA_,sZ_,sS_,i64_w,i32_w];rfl))));(first|(refine one_ (i:=7) (N:=some 44) #[true,true,true,true,true,true,true,true,false,true,true,false,false,false,false,false,false,false,false,false] rfl rfl (one_of HT_.out (by kernel_rfl)) (by decide) (fun K hK=>?_);refine goesF_ Tryz.func39 (by kernel_rfl) rfl #[.slice A0_1 l0_1.length c0_1] (by rfl) rfl rfl (by rfl) qz22 ?_;with_reducible refine (impl_inClause.calls _ _ l0_1 _ _ ?side1 ?side2 HmA.out).mono ?_;(case side1=>exact qz8);(case side2=>exact HC0_1.out);rintro e w40 ⟨rfl,hb⟩;refine ⟨_,rfl,?_⟩;have n_:=as2 (blk_below (blkp BK166.out) hb) (below_step qz11 hb);clear BK166 HB;obtain ⟨BK166,HB⟩:=n_;clear hb;refine hK.out _ _ ⟨(blk_cell BK166.out 0).trans rfl,(blk_cell BK166.out 1).trans rfl,(blk_cell BK166.out 2).trans rfl,(blk_cell BK166.out 3).trans rfl⟩ (fun hHeld=>?_);clear hK K;refine norm_ (a':=?_) ?_ ?_;rotate_left;(focus (show Act.put _ (some 44) _=_;simp only [Act.put,sA_,sZ_,sS_,i64_w,i32_w];rfl)))|(refine pure_ (i:=7) (N:=some 44) (v:=undef) (a':=?_) #[true,true,true,true,true,true,true,true,false,true,true,false,false,false,false,false,false,false,false,false] rfl rfl (any_of HT_.out (by kernel_rfl)) (fun _ _ _ h=>h) (Or.inr ⟨by rfl,rfl⟩) ?_ ?_;rotate_left;(focus (simp only [Act.put,sA_,sZ_,sS_,i64_w,i32_w];rfl))))
    refine pure_ (i:=8) (N:=some 45) (v:=?_) (a':=?_) #[true,true,true,true,true,true,true,true,true,true,true,false,false,false,false,false,false,false,false,false] rfl rfl (any_of HT_.out (by kernel_rfl)) (fun _ _ _ h=>h) (Or.inl ⟨by rfl,?_⟩) ?_ ?_;rotate_left;(focus (intro w';go_simp;with_reducible rfl));rotate_left;(focus (simp only [Act.put,sA_,sZ_,sS_,i64_w,i32_w];rfl));refine one_ (i:=11) (N:=some 48) #[true,true,true,true,true,true,true,true,true,true,true,true,false,false,false,false,false,false,false,false] rfl rfl (one_of HT_.out (by kernel_rfl)) (by decide) (fun K hK=>?_);refine goes_ Tryz.func42 (by kernel_rfl) rfl #[.slice A0_2 l0_2.length c0_2] (by rfl) rfl rfl qz22 ?_;with_reducible refine (impl_TrmOk.calls _ _ l0_2 _ _ ?side1 ?side2 HtB.out).mono ?_;(case side1=>exact qz18);(case side2=>exact HC0_2.out);rintro e w41 ⟨rfl,hb⟩;refine ⟨_,rfl,?_⟩;have n_:=as2 (blk_below (blkp BK166.out) hb) (below_step qz11 hb);clear BK166 HB;obtain ⟨BK166,HB⟩:=n_;clear hb;refine hK.out _ _ ⟨(blk_cell BK166.out 0).trans rfl,(blk_cell BK166.out 1).trans rfl,(blk_cell BK166.out 2).trans rfl,(blk_cell BK166.out 3).trans rfl⟩ (fun hHeld=>?_);clear hK K;refine norm_ (a':=?_) ?_ ?_;rotate_left;(focus (show Act.put _ (some 48) _=_;simp only [Act.put,sA_,sZ_,sS_,i64_w,i32_w];rfl))
    refine pure_ (i:=12) (N:=some 49) (v:=?_) (a':=?_) #[true,true,true,true,true,true,true,true,true,true,true,true,true,false,false,false,false,false,false,false] rfl rfl (any_of HT_.out (by kernel_rfl)) (fun _ _ _ h=>h) (Or.inl ⟨by rfl,?_⟩) ?_ ?_;rotate_left;(focus (intro w';go_simp;with_reducible rfl));rotate_left;(focus (simp only [Act.put,sA_,sZ_,sS_,i64_w,i32_w];rfl));(first|(refine pure_ (i:=13) (N:=some 50) (v:=?_) (a':=?_) #[true,true,true,true,true,true,true,true,true,true,true,true,true,true,false,false,false,false,false,false] rfl rfl (any_of HT_.out (by kernel_rfl)) (fun _ _ _ h=>h) (Or.inl ⟨by rfl,?_⟩) ?_ ?_;rotate_left;(focus (intro w';go_simp;with_reducible rfl));rotate_left;(focus (simp only [Act.put,sA_,sZ_,sS_,i64_w,i32_w];rfl)))|(refine pure_ (i:=13) (N:=some 50) (v:=undef) (a':=?_) #[true,true,true,true,true,true,true,true,true,true,true,true,true,true,false,false,false,false,false,false] rfl rfl (any_of HT_.out (by kernel_rfl)) (fun _ _ _ h=>h) (Or.inr ⟨by rfl,rfl⟩) ?_ ?_;rotate_left;(focus (simp only [Act.put,sA_,sZ_,sS_,i64_w,i32_w];rfl))));(first|(refine pure_ (i:=14) (N:=some 51) (v:=?_) (a':=?_) #[true,true,true,true,true,true,true,true,true,true,true,true,true,true,true,false,false,false,false,false] rfl rfl (any_of HT_.out (by kernel_rfl)) (fun _ _ _ h=>h) (Or.inl ⟨by rfl,?_⟩) ?_ ?_;rotate_left;(focus (intro w';go_simp;with_reducible rfl));rotate_left;(focus (simp only [Act.put,sA_,sZ_,sS_,i64_w,i32_w];rfl)))|(refine pure_ (i:=14) (N:=some 51) (v:=undef) (a':=?_) #[true,true,true,true,true,true,true,true,true,true,true,true,true,true,true,false,false,false,false,false] rfl rfl (any_of HT_.out (by kernel_rfl)) (fun _ _ _ h=>h) (Or.inr ⟨by rfl,rfl⟩) ?_ ?_;rotate_left;(focus (simp only [Act.put,sA_,sZ_,sS_,i64_w,i32_w];rfl))));(first|(refine take_ (i:=15) (N:=some 52) (v:=?_) (a':=?_) #[true,true,true,true,true,true,true,true,true,true,true,true,true,true,true,true,false,false,false,false] rfl rfl (take_ofW HT_.out HW_.out (by kernel_rfl)) (fun _ _ _ h=>h) (Or.inl ⟨by rfl,?_⟩) hHeld ?_ ?_;rotate_left;(focus (rintro w' ⟨s0,s1,s2,s3⟩;go_simp;with_reducible rfl));rotate_left;(focus (simp only [Act.put,sA_,sZ_,sS_,i64_w,i32_w];rfl)))|(refine pure_ (i:=15) (N:=some 52) (v:=undef) (a':=?_) #[true,true,true,true,true,true,true,true,true,true,true,true,true,true,true,true,false,false,false,false] rfl rfl (any_of HT_.out (by kernel_rfl)) (fun _ _ _ h=>h) (Or.inr ⟨by rfl,rfl⟩) ?_ ?_;rotate_left;(focus (simp only [Act.put,sA_,sZ_,sS_,i64_w,i32_w];rfl))));(first|(refine one_ (i:=16) (N:=some 53) #[true,true,true,true,true,true,true,true,true,true,true,true,true,true,true,true,true,false,false,false] rfl rfl (one_of HT_.out (by kernel_rfl)) (by decide) (fun K hK=>?_);refine goesF_ Tryz.func39 (by kernel_rfl) rfl #[.slice A0_2 l0_2.length c0_2] (by rfl) rfl rfl (by rfl) qz22 ?_;with_reducible refine (impl_inClause.calls _ _ l0_2 _ _ ?side1 ?side2 HmB.out).mono ?_;(case side1=>exact qz18);(case side2=>exact HC0_2.out);rintro e w42 ⟨rfl,hb⟩;refine ⟨_,rfl,?_⟩;have n_:=as2 (blk_below (blkp BK166.out) hb) (below_step qz11 hb);clear BK166 HB;obtain ⟨BK166,HB⟩:=n_;clear hb;refine hK.out _ _ ⟨(blk_cell BK166.out 0).trans rfl,(blk_cell BK166.out 1).trans rfl,(blk_cell BK166.out 2).trans rfl,(blk_cell BK166.out 3).trans rfl⟩ (fun hHeld=>?_);clear hK K;refine norm_ (a':=?_) ?_ ?_;rotate_left;(focus (show Act.put _ (some 53) _=_;simp only [Act.put,sA_,sZ_,sS_,i64_w,i32_w];rfl)))|(refine pure_ (i:=16) (N:=some 53) (v:=undef) (a':=?_) #[true,true,true,true,true,true,true,true,true,true,true,true,true,true,true,true,true,false,false,false] rfl rfl (any_of HT_.out (by kernel_rfl)) (fun _ _ _ h=>h) (Or.inr ⟨by rfl,rfl⟩) ?_ ?_;rotate_left;(focus (simp only [Act.put,sA_,sZ_,sS_,i64_w,i32_w];rfl))))
    refine pure_ (i:=17) (N:=some 54) (v:=?_) (a':=?_) #[true,true,true,true,true,true,true,true,true,true,true,true,true,true,true,true,true,true,false,false] rfl rfl (any_of HT_.out (by kernel_rfl)) (fun _ _ _ h=>h) (Or.inl ⟨by rfl,?_⟩) ?_ ?_;rotate_left;(focus (intro w';go_simp;with_reducible rfl));rotate_left;(focus (simp only [Act.put,sA_,sZ_,sS_,i64_w,i32_w];rfl));refine pure_ (i:=18) (N:=some 5) (v:=?_) (a':=?_) #[true,true,true,true,true,true,true,true,true,true,true,true,true,true,true,true,true,true,true,false] rfl rfl (any_of HT_.out (by kernel_rfl)) (fun _ _ _ h=>h) (Or.inl ⟨by rfl,?_⟩) ?_ ?_;rotate_left;(focus (intro w';go_simp;with_reducible rfl));rotate_left;(focus (simp only [Act.put,sA_,sZ_,sS_,i64_w,i32_w];rfl));refine pure_ (i:=19) (N:=some 6) (v:=?_) (a':=?_) #[true,true,true,true,true,true,true,true,true,true,true,true,true,true,true,true,true,true,true,true] rfl rfl (any_of HT_.out (by kernel_rfl)) (fun _ _ _ h=>h) (Or.inl ⟨by rfl,?_⟩) ?_ ?_;rotate_left;(focus (intro w';go_simp;with_reducible rfl));rotate_left;(focus (simp only [Act.put,sA_,sZ_,sS_,i64_w,i32_w];rfl));refine done_ (done_of HT_.out (by kernel_rfl)) ?_;(try go_wp2);go_meet
    case rel=>exact ⟨_,_,_,rfl,rfl,rfl,⟨HR_.out⟩,⟨qz11⟩⟩
  by_cases h5:a0_0=5
  ·have HR_:=Aside0.mk (HR0_.out.trans ((if_neg (fun e=>e.elim h1 h6)).trans ((if_neg (fun e=>e.elim h2 h4)).trans (if_pos h5))))
   have e1_:(a0_0 == 1)=false:=beq_eq_false_iff_ne.mpr h1;have e6_:(a0_0 == 6)=false:=beq_eq_false_iff_ne.mpr h6;have e2_:(a0_0 == 2)=false:=beq_eq_false_iff_ne.mpr h2;have e4_:(a0_0 == 4)=false:=beq_eq_false_iff_ne.mpr h4;have e5_:(a0_0 == 5)=true:=beq_iff_eq.mpr h5;clear HR0_ h1 h6 h2 h4 h5;cases tA <;> cases tB <;> cases tC
   all_goals
    (try go_wp2);have n_:=as2 (blk_drew BK166.out) (below_drew1 HB.out);clear BK166 HB;obtain ⟨BK166,HB⟩:=n_;refine start_ (n:=30) (S:=fun w'=>w'.cell? ⟨gb166,0,none⟩=some (.int .i64 a0_0)∧w'.cell? ⟨gb166,1,none⟩=some (.slice A0_1 l0_1.length c0_1)∧w'.cell? ⟨gb166,2,none⟩=some (.slice A0_2 l0_2.length c0_2)∧w'.cell? ⟨gb166,3,none⟩=some (.slice A0_3 l0_3.length c0_3)) (ds:=[]) #[false,false,false,false,false,false,false,false,false,false,false,false,false,false,false,false,false,false,false,false,false,false,false,false,false,false,false,false,false,false] (by kernel_rfl) rfl rfl ⟨(blk_cell BK166.out 0).trans rfl,(blk_cell BK166.out 1).trans rfl,(blk_cell BK166.out 2).trans rfl,(blk_cell BK166.out 3).trans rfl⟩ (fun hHeld=>?_);refine with_tabW impl_goalShape.tab11 impl_goalShape.bits11 (fun HT_ HW_=>?_)
    generalize w4.drew=w38 at BK166 HB hHeld ⊢
    refine pure_ (i:=0) (N:=some 57) (v:=?_) (a':=?_) #[true,false,false,false,false,false,false,false,false,false,false,false,false,false,false,false,false,false,false,false,false,false,false,false,false,false,false,false,false,false] rfl rfl (any_of HT_.out (by kernel_rfl)) (fun _ _ _ h=>h) (Or.inl ⟨by rfl,?_⟩) ?_ ?_;rotate_left;(focus (intro w';go_simp;with_reducible rfl));rotate_left;(focus (simp only [Act.put,sA_,sZ_,sS_,i64_w,i32_w];rfl));refine pure_ (i:=9) (N:=some 66) (v:=?_) (a':=?_) #[true,false,false,false,false,false,false,false,false,true,false,false,false,false,false,false,false,false,false,false,false,false,false,false,false,false,false,false,false,false] rfl rfl (any_of HT_.out (by kernel_rfl)) (fun _ _ _ h=>h) (Or.inl ⟨by rfl,?_⟩) ?_ ?_;rotate_left;(focus (intro w';go_simp;with_reducible rfl));rotate_left;(focus (simp only [Act.put,sA_,sZ_,sS_,i64_w,i32_w];rfl));refine pure_ (i:=18) (N:=some 75) (v:=?_) (a':=?_) #[true,false,false,false,false,false,false,false,false,true,false,false,false,false,false,false,false,false,true,false,false,false,false,false,false,false,false,false,false,false] rfl rfl (any_of HT_.out (by kernel_rfl)) (fun _ _ _ h=>h) (Or.inl ⟨by rfl,?_⟩) ?_ ?_;rotate_left;(focus (intro w';go_simp;with_reducible rfl));rotate_left;(focus (simp only [Act.put,sA_,sZ_,sS_,i64_w,i32_w];rfl));refine take_ (i:=1) (N:=some 58) (v:=?_) (a':=?_) #[true,true,false,false,false,false,false,false,false,true,false,false,false,false,false,false,false,false,true,false,false,false,false,false,false,false,false,false,false,false] rfl rfl (take_ofW HT_.out HW_.out (by kernel_rfl)) (fun _ _ _ h=>h) (Or.inl ⟨by rfl,?_⟩) hHeld ?_ ?_;rotate_left;(focus (rintro w' ⟨s0,s1,s2,s3⟩;go_simp;with_reducible rfl));rotate_left;(focus (simp only [Act.put,sA_,sZ_,sS_,i64_w,i32_w];rfl));refine take_ (i:=10) (N:=some 67) (v:=?_) (a':=?_) #[true,true,false,false,false,false,false,false,false,true,true,false,false,false,false,false,false,false,true,false,false,false,false,false,false,false,false,false,false,false] rfl rfl (take_ofW HT_.out HW_.out (by kernel_rfl)) (fun _ _ _ h=>h) (Or.inl ⟨by rfl,?_⟩) hHeld ?_ ?_;rotate_left;(focus (rintro w' ⟨s0,s1,s2,s3⟩;go_simp;with_reducible rfl));rotate_left;(focus (simp only [Act.put,sA_,sZ_,sS_,i64_w,i32_w];rfl));refine take_ (i:=19) (N:=some 76) (v:=?_) (a':=?_) #[true,true,false,false,false,false,false,false,false,true,true,false,false,false,false,false,false,false,true,true,false,false,false,false,false,false,false,false,false,false] rfl rfl (take_ofW HT_.out HW_.out (by kernel_rfl)) (fun _ _ _ h=>h) (Or.inl ⟨by rfl,?_⟩) hHeld ?_ ?_;rotate_left;(focus (rintro w' ⟨s0,s1,s2,s3⟩;go_simp;with_reducible rfl));rotate_left;(focus (simp only [Act.put,sA_,sZ_,sS_,i64_w,i32_w];rfl));refine one_ (i:=2) (N:=some 59) #[true,true,true,false,false,false,false,false,false,true,true,false,false,false,false,false,false,false,true,true,false,false,false,false,false,false,false,false,false,false] rfl rfl (one_of HT_.out (by kernel_rfl)) (by decide) (fun K hK=>?_);refine goes_ Tryz.func42 (by kernel_rfl) rfl #[.slice A0_1 l0_1.length c0_1] (by rfl) rfl rfl qz22 ?_;with_reducible refine (impl_TrmOk.calls _ _ l0_1 _ _ ?side1 ?side2 HtA.out).mono ?_;(case side1=>exact qz8);(case side2=>exact HC0_1.out);rintro e w85 ⟨rfl,hb⟩;refine ⟨_,rfl,?_⟩;have n_:=as2 (blk_below (blkp BK166.out) hb) (below_step qz11 hb);clear BK166 HB;obtain ⟨BK166,HB⟩:=n_;clear hb;refine hK.out _ _ ⟨(blk_cell BK166.out 0).trans rfl,(blk_cell BK166.out 1).trans rfl,(blk_cell BK166.out 2).trans rfl,(blk_cell BK166.out 3).trans rfl⟩ (fun hHeld=>?_);clear hK K;refine norm_ (a':=?_) ?_ ?_;rotate_left;(focus (show Act.put _ (some 59) _=_;simp only [Act.put,sA_,sZ_,sS_,i64_w,i32_w];rfl))
    refine pure_ (i:=3) (N:=some 60) (v:=?_) (a':=?_) #[true,true,true,true,false,false,false,false,false,true,true,false,false,false,false,false,false,false,true,true,false,false,false,false,false,false,false,false,false,false] rfl rfl (any_of HT_.out (by kernel_rfl)) (fun _ _ _ h=>h) (Or.inl ⟨by rfl,?_⟩) ?_ ?_;rotate_left;(focus (intro w';go_simp;with_reducible rfl));rotate_left;(focus (simp only [Act.put,sA_,sZ_,sS_,i64_w,i32_w];rfl));(first|(refine pure_ (i:=4) (N:=some 61) (v:=?_) (a':=?_) #[true,true,true,true,true,false,false,false,false,true,true,false,false,false,false,false,false,false,true,true,false,false,false,false,false,false,false,false,false,false] rfl rfl (any_of HT_.out (by kernel_rfl)) (fun _ _ _ h=>h) (Or.inl ⟨by rfl,?_⟩) ?_ ?_;rotate_left;(focus (intro w';go_simp;with_reducible rfl));rotate_left;(focus (simp only [Act.put,sA_,sZ_,sS_,i64_w,i32_w];rfl)))|(refine pure_ (i:=4) (N:=some 61) (v:=undef) (a':=?_) #[true,true,true,true,true,false,false,false,false,true,true,false,false,false,false,false,false,false,true,true,false,false,false,false,false,false,false,false,false,false] rfl rfl (any_of HT_.out (by kernel_rfl)) (fun _ _ _ h=>h) (Or.inr ⟨by rfl,rfl⟩) ?_ ?_;rotate_left;(focus (simp only [Act.put,sA_,sZ_,sS_,i64_w,i32_w];rfl))));(first|(refine pure_ (i:=5) (N:=some 62) (v:=?_) (a':=?_) #[true,true,true,true,true,true,false,false,false,true,true,false,false,false,false,false,false,false,true,true,false,false,false,false,false,false,false,false,false,false] rfl rfl (any_of HT_.out (by kernel_rfl)) (fun _ _ _ h=>h) (Or.inl ⟨by rfl,?_⟩) ?_ ?_;rotate_left;(focus (intro w';go_simp;with_reducible rfl));rotate_left;(focus (simp only [Act.put,sA_,sZ_,sS_,i64_w,i32_w];rfl)))|(refine pure_ (i:=5) (N:=some 62) (v:=undef) (a':=?_) #[true,true,true,true,true,true,false,false,false,true,true,false,false,false,false,false,false,false,true,true,false,false,false,false,false,false,false,false,false,false] rfl rfl (any_of HT_.out (by kernel_rfl)) (fun _ _ _ h=>h) (Or.inr ⟨by rfl,rfl⟩) ?_ ?_;rotate_left;(focus (simp only [Act.put,sA_,sZ_,sS_,i64_w,i32_w];rfl))));(first|(refine take_ (i:=6) (N:=some 63) (v:=?_) (a':=?_) #[true,true,true,true,true,true,true,false,false,true,true,false,false,false,false,false,false,false,true,true,false,false,false,false,false,false,false,false,false,false] rfl rfl (take_ofW HT_.out HW_.out (by kernel_rfl)) (fun _ _ _ h=>h) (Or.inl ⟨by rfl,?_⟩) hHeld ?_ ?_;rotate_left;(focus (rintro w' ⟨s0,s1,s2,s3⟩;go_simp;with_reducible rfl));rotate_left;(focus (simp only [Act.put,sA_,sZ_,sS_,i64_w,i32_w];rfl)))|(refine pure_ (i:=6) (N:=some 63) (v:=undef) (a':=?_) #[true,true,true,true,true,true,true,false,false,true,true,false,false,false,false,false,false,false,true,true,false,false,false,false,false,false,false,false,false,false] rfl rfl (any_of HT_.out (by kernel_rfl)) (fun _ _ _ h=>h) (Or.inr ⟨by rfl,rfl⟩) ?_ ?_;rotate_left;(focus (simp only [Act.put,sA_,sZ_,sS_,i64_w,i32_w];rfl))))
    (first|(refine one_ (i:=7) (N:=some 64) #[true,true,true,true,true,true,true,true,false,true,true,false,false,false,false,false,false,false,true,true,false,false,false,false,false,false,false,false,false,false] rfl rfl (one_of HT_.out (by kernel_rfl)) (by decide) (fun K hK=>?_);refine goesF_ Tryz.func39 (by kernel_rfl) rfl #[.slice A0_1 l0_1.length c0_1] (by rfl) rfl rfl (by rfl) qz22 ?_;with_reducible refine (impl_inClause.calls _ _ l0_1 _ _ ?side1 ?side2 HmA.out).mono ?_;(case side1=>exact qz8);(case side2=>exact HC0_1.out);rintro e w86 ⟨rfl,hb⟩;refine ⟨_,rfl,?_⟩;have n_:=as2 (blk_below (blkp BK166.out) hb) (below_step qz11 hb);clear BK166 HB;obtain ⟨BK166,HB⟩:=n_;clear hb;refine hK.out _ _ ⟨(blk_cell BK166.out 0).trans rfl,(blk_cell BK166.out 1).trans rfl,(blk_cell BK166.out 2).trans rfl,(blk_cell BK166.out 3).trans rfl⟩ (fun hHeld=>?_);clear hK K;refine norm_ (a':=?_) ?_ ?_;rotate_left;(focus (show Act.put _ (some 64) _=_;simp only [Act.put,sA_,sZ_,sS_,i64_w,i32_w];rfl)))|(refine pure_ (i:=7) (N:=some 64) (v:=undef) (a':=?_) #[true,true,true,true,true,true,true,true,false,true,true,false,false,false,false,false,false,false,true,true,false,false,false,false,false,false,false,false,false,false] rfl rfl (any_of HT_.out (by kernel_rfl)) (fun _ _ _ h=>h) (Or.inr ⟨by rfl,rfl⟩) ?_ ?_;rotate_left;(focus (simp only [Act.put,sA_,sZ_,sS_,i64_w,i32_w];rfl))));refine pure_ (i:=8) (N:=some 65) (v:=?_) (a':=?_) #[true,true,true,true,true,true,true,true,true,true,true,false,false,false,false,false,false,false,true,true,false,false,false,false,false,false,false,false,false,false] rfl rfl (any_of HT_.out (by kernel_rfl)) (fun _ _ _ h=>h) (Or.inl ⟨by rfl,?_⟩) ?_ ?_;rotate_left;(focus (intro w';go_simp;with_reducible rfl));rotate_left;(focus (simp only [Act.put,sA_,sZ_,sS_,i64_w,i32_w];rfl));refine one_ (i:=11) (N:=some 68) #[true,true,true,true,true,true,true,true,true,true,true,true,false,false,false,false,false,false,true,true,false,false,false,false,false,false,false,false,false,false] rfl rfl (one_of HT_.out (by kernel_rfl)) (by decide) (fun K hK=>?_);refine goes_ Tryz.func42 (by kernel_rfl) rfl #[.slice A0_2 l0_2.length c0_2] (by rfl) rfl rfl qz22 ?_;with_reducible refine (impl_TrmOk.calls _ _ l0_2 _ _ ?side1 ?side2 HtB.out).mono ?_;(case side1=>exact qz18);(case side2=>exact HC0_2.out);rintro e w87 ⟨rfl,hb⟩;refine ⟨_,rfl,?_⟩;have n_:=as2 (blk_below (blkp BK166.out) hb) (below_step qz11 hb);clear BK166 HB;obtain ⟨BK166,HB⟩:=n_;clear hb;refine hK.out _ _ ⟨(blk_cell BK166.out 0).trans rfl,(blk_cell BK166.out 1).trans rfl,(blk_cell BK166.out 2).trans rfl,(blk_cell BK166.out 3).trans rfl⟩ (fun hHeld=>?_);clear hK K;refine norm_ (a':=?_) ?_ ?_;rotate_left;(focus (show Act.put _ (some 68) _=_;simp only [Act.put,sA_,sZ_,sS_,i64_w,i32_w];rfl))
    refine pure_ (i:=12) (N:=some 69) (v:=?_) (a':=?_) #[true,true,true,true,true,true,true,true,true,true,true,true,true,false,false,false,false,false,true,true,false,false,false,false,false,false,false,false,false,false] rfl rfl (any_of HT_.out (by kernel_rfl)) (fun _ _ _ h=>h) (Or.inl ⟨by rfl,?_⟩) ?_ ?_;rotate_left;(focus (intro w';go_simp;with_reducible rfl));rotate_left;(focus (simp only [Act.put,sA_,sZ_,sS_,i64_w,i32_w];rfl));(first|(refine pure_ (i:=13) (N:=some 70) (v:=?_) (a':=?_) #[true,true,true,true,true,true,true,true,true,true,true,true,true,true,false,false,false,false,true,true,false,false,false,false,false,false,false,false,false,false] rfl rfl (any_of HT_.out (by kernel_rfl)) (fun _ _ _ h=>h) (Or.inl ⟨by rfl,?_⟩) ?_ ?_;rotate_left;(focus (intro w';go_simp;with_reducible rfl));rotate_left;(focus (simp only [Act.put,sA_,sZ_,sS_,i64_w,i32_w];rfl)))|(refine pure_ (i:=13) (N:=some 70) (v:=undef) (a':=?_) #[true,true,true,true,true,true,true,true,true,true,true,true,true,true,false,false,false,false,true,true,false,false,false,false,false,false,false,false,false,false] rfl rfl (any_of HT_.out (by kernel_rfl)) (fun _ _ _ h=>h) (Or.inr ⟨by rfl,rfl⟩) ?_ ?_;rotate_left;(focus (simp only [Act.put,sA_,sZ_,sS_,i64_w,i32_w];rfl))));(first|(refine pure_ (i:=14) (N:=some 71) (v:=?_) (a':=?_) #[true,true,true,true,true,true,true,true,true,true,true,true,true,true,true,false,false,false,true,true,false,false,false,false,false,false,false,false,false,false] rfl rfl (any_of HT_.out (by kernel_rfl)) (fun _ _ _ h=>h) (Or.inl ⟨by rfl,?_⟩) ?_ ?_;rotate_left;(focus (intro w';go_simp;with_reducible rfl));rotate_left;(focus (simp only [Act.put,sA_,sZ_,sS_,i64_w,i32_w];rfl)))|(refine pure_ (i:=14) (N:=some 71) (v:=undef) (a':=?_) #[true,true,true,true,true,true,true,true,true,true,true,true,true,true,true,false,false,false,true,true,false,false,false,false,false,false,false,false,false,false] rfl rfl (any_of HT_.out (by kernel_rfl)) (fun _ _ _ h=>h) (Or.inr ⟨by rfl,rfl⟩) ?_ ?_;rotate_left;(focus (simp only [Act.put,sA_,sZ_,sS_,i64_w,i32_w];rfl))));(first|(refine take_ (i:=15) (N:=some 72) (v:=?_) (a':=?_) #[true,true,true,true,true,true,true,true,true,true,true,true,true,true,true,true,false,false,true,true,false,false,false,false,false,false,false,false,false,false] rfl rfl (take_ofW HT_.out HW_.out (by kernel_rfl)) (fun _ _ _ h=>h) (Or.inl ⟨by rfl,?_⟩) hHeld ?_ ?_;rotate_left;(focus (rintro w' ⟨s0,s1,s2,s3⟩;go_simp;with_reducible rfl));rotate_left;(focus (simp only [Act.put,sA_,sZ_,sS_,i64_w,i32_w];rfl)))|(refine pure_ (i:=15) (N:=some 72) (v:=undef) (a':=?_) #[true,true,true,true,true,true,true,true,true,true,true,true,true,true,true,true,false,false,true,true,false,false,false,false,false,false,false,false,false,false] rfl rfl (any_of HT_.out (by kernel_rfl)) (fun _ _ _ h=>h) (Or.inr ⟨by rfl,rfl⟩) ?_ ?_;rotate_left;(focus (simp only [Act.put,sA_,sZ_,sS_,i64_w,i32_w];rfl))))
    (first|(refine one_ (i:=16) (N:=some 73) #[true,true,true,true,true,true,true,true,true,true,true,true,true,true,true,true,true,false,true,true,false,false,false,false,false,false,false,false,false,false] rfl rfl (one_of HT_.out (by kernel_rfl)) (by decide) (fun K hK=>?_);refine goesF_ Tryz.func39 (by kernel_rfl) rfl #[.slice A0_2 l0_2.length c0_2] (by rfl) rfl rfl (by rfl) qz22 ?_;with_reducible refine (impl_inClause.calls _ _ l0_2 _ _ ?side1 ?side2 HmB.out).mono ?_;(case side1=>exact qz18);(case side2=>exact HC0_2.out);rintro e w88 ⟨rfl,hb⟩;refine ⟨_,rfl,?_⟩;have n_:=as2 (blk_below (blkp BK166.out) hb) (below_step qz11 hb);clear BK166 HB;obtain ⟨BK166,HB⟩:=n_;clear hb;refine hK.out _ _ ⟨(blk_cell BK166.out 0).trans rfl,(blk_cell BK166.out 1).trans rfl,(blk_cell BK166.out 2).trans rfl,(blk_cell BK166.out 3).trans rfl⟩ (fun hHeld=>?_);clear hK K;refine norm_ (a':=?_) ?_ ?_;rotate_left;(focus (show Act.put _ (some 73) _=_;simp only [Act.put,sA_,sZ_,sS_,i64_w,i32_w];rfl)))|(refine pure_ (i:=16) (N:=some 73) (v:=undef) (a':=?_) #[true,true,true,true,true,true,true,true,true,true,true,true,true,true,true,true,true,false,true,true,false,false,false,false,false,false,false,false,false,false] rfl rfl (any_of HT_.out (by kernel_rfl)) (fun _ _ _ h=>h) (Or.inr ⟨by rfl,rfl⟩) ?_ ?_;rotate_left;(focus (simp only [Act.put,sA_,sZ_,sS_,i64_w,i32_w];rfl))));refine pure_ (i:=17) (N:=some 74) (v:=?_) (a':=?_) #[true,true,true,true,true,true,true,true,true,true,true,true,true,true,true,true,true,true,true,true,false,false,false,false,false,false,false,false,false,false] rfl rfl (any_of HT_.out (by kernel_rfl)) (fun _ _ _ h=>h) (Or.inl ⟨by rfl,?_⟩) ?_ ?_;rotate_left;(focus (intro w';go_simp;with_reducible rfl));rotate_left;(focus (simp only [Act.put,sA_,sZ_,sS_,i64_w,i32_w];rfl));refine one_ (i:=20) (N:=some 77) #[true,true,true,true,true,true,true,true,true,true,true,true,true,true,true,true,true,true,true,true,true,false,false,false,false,false,false,false,false,false] rfl rfl (one_of HT_.out (by kernel_rfl)) (by decide) (fun K hK=>?_);refine goes_ Tryz.func42 (by kernel_rfl) rfl #[.slice A0_3 l0_3.length c0_3] (by rfl) rfl rfl qz22 ?_;with_reducible refine (impl_TrmOk.calls _ _ l0_3 _ _ ?side1 ?side2 HtC.out).mono ?_;(case side1=>exact qz30);(case side2=>exact HC0_3.out);rintro e w89 ⟨rfl,hb⟩;refine ⟨_,rfl,?_⟩;have n_:=as2 (blk_below (blkp BK166.out) hb) (below_step qz11 hb);clear BK166 HB;obtain ⟨BK166,HB⟩:=n_;clear hb;refine hK.out _ _ ⟨(blk_cell BK166.out 0).trans rfl,(blk_cell BK166.out 1).trans rfl,(blk_cell BK166.out 2).trans rfl,(blk_cell BK166.out 3).trans rfl⟩ (fun hHeld=>?_);clear hK K;refine norm_ (a':=?_) ?_ ?_;rotate_left;(focus (show Act.put _ (some 77) _=_;simp only [Act.put,sA_,sZ_,sS_,i64_w,i32_w];rfl))
    refine pure_ (i:=21) (N:=some 78) (v:=?_) (a':=?_) #[true,true,true,true,true,true,true,true,true,true,true,true,true,true,true,true,true,true,true,true,true,true,false,false,false,false,false,false,false,false] rfl rfl (any_of HT_.out (by kernel_rfl)) (fun _ _ _ h=>h) (Or.inl ⟨by rfl,?_⟩) ?_ ?_;rotate_left;(focus (intro w';go_simp;with_reducible rfl));rotate_left;(focus (simp only [Act.put,sA_,sZ_,sS_,i64_w,i32_w];rfl));(first|(refine pure_ (i:=22) (N:=some 79) (v:=?_) (a':=?_) #[true,true,true,true,true,true,true,true,true,true,true,true,true,true,true,true,true,true,true,true,true,true,true,false,false,false,false,false,false,false] rfl rfl (any_of HT_.out (by kernel_rfl)) (fun _ _ _ h=>h) (Or.inl ⟨by rfl,?_⟩) ?_ ?_;rotate_left;(focus (intro w';go_simp;with_reducible rfl));rotate_left;(focus (simp only [Act.put,sA_,sZ_,sS_,i64_w,i32_w];rfl)))|(refine pure_ (i:=22) (N:=some 79) (v:=undef) (a':=?_) #[true,true,true,true,true,true,true,true,true,true,true,true,true,true,true,true,true,true,true,true,true,true,true,false,false,false,false,false,false,false] rfl rfl (any_of HT_.out (by kernel_rfl)) (fun _ _ _ h=>h) (Or.inr ⟨by rfl,rfl⟩) ?_ ?_;rotate_left;(focus (simp only [Act.put,sA_,sZ_,sS_,i64_w,i32_w];rfl))));(first|(refine pure_ (i:=23) (N:=some 80) (v:=?_) (a':=?_) #[true,true,true,true,true,true,true,true,true,true,true,true,true,true,true,true,true,true,true,true,true,true,true,true,false,false,false,false,false,false] rfl rfl (any_of HT_.out (by kernel_rfl)) (fun _ _ _ h=>h) (Or.inl ⟨by rfl,?_⟩) ?_ ?_;rotate_left;(focus (intro w';go_simp;with_reducible rfl));rotate_left;(focus (simp only [Act.put,sA_,sZ_,sS_,i64_w,i32_w];rfl)))|(refine pure_ (i:=23) (N:=some 80) (v:=undef) (a':=?_) #[true,true,true,true,true,true,true,true,true,true,true,true,true,true,true,true,true,true,true,true,true,true,true,true,false,false,false,false,false,false] rfl rfl (any_of HT_.out (by kernel_rfl)) (fun _ _ _ h=>h) (Or.inr ⟨by rfl,rfl⟩) ?_ ?_;rotate_left;(focus (simp only [Act.put,sA_,sZ_,sS_,i64_w,i32_w];rfl))));(first|(refine take_ (i:=24) (N:=some 81) (v:=?_) (a':=?_) #[true,true,true,true,true,true,true,true,true,true,true,true,true,true,true,true,true,true,true,true,true,true,true,true,true,false,false,false,false,false] rfl rfl (take_ofW HT_.out HW_.out (by kernel_rfl)) (fun _ _ _ h=>h) (Or.inl ⟨by rfl,?_⟩) hHeld ?_ ?_;rotate_left;(focus (rintro w' ⟨s0,s1,s2,s3⟩;go_simp;with_reducible rfl));rotate_left;(focus (simp only [Act.put,sA_,sZ_,sS_,i64_w,i32_w];rfl)))|(refine pure_ (i:=24) (N:=some 81) (v:=undef) (a':=?_) #[true,true,true,true,true,true,true,true,true,true,true,true,true,true,true,true,true,true,true,true,true,true,true,true,true,false,false,false,false,false] rfl rfl (any_of HT_.out (by kernel_rfl)) (fun _ _ _ h=>h) (Or.inr ⟨by rfl,rfl⟩) ?_ ?_;rotate_left;(focus (simp only [Act.put,sA_,sZ_,sS_,i64_w,i32_w];rfl))))
    (first|(refine one_ (i:=25) (N:=some 82) #[true,true,true,true,true,true,true,true,true,true,true,true,true,true,true,true,true,true,true,true,true,true,true,true,true,true,false,false,false,false] rfl rfl (one_of HT_.out (by kernel_rfl)) (by decide) (fun K hK=>?_);refine goesF_ Tryz.func39 (by kernel_rfl) rfl #[.slice A0_3 l0_3.length c0_3] (by rfl) rfl rfl (by rfl) qz22 ?_;with_reducible refine (impl_inClause.calls _ _ l0_3 _ _ ?side1 ?side2 HmC.out).mono ?_;(case side1=>exact qz30);(case side2=>exact HC0_3.out);rintro e w90 ⟨rfl,hb⟩;refine ⟨_,rfl,?_⟩;have n_:=as2 (blk_below (blkp BK166.out) hb) (below_step qz11 hb);clear BK166 HB;obtain ⟨BK166,HB⟩:=n_;clear hb;refine hK.out _ _ ⟨(blk_cell BK166.out 0).trans rfl,(blk_cell BK166.out 1).trans rfl,(blk_cell BK166.out 2).trans rfl,(blk_cell BK166.out 3).trans rfl⟩ (fun hHeld=>?_);clear hK K;refine norm_ (a':=?_) ?_ ?_;rotate_left;(focus (show Act.put _ (some 82) _=_;simp only [Act.put,sA_,sZ_,sS_,i64_w,i32_w];rfl)))|(refine pure_ (i:=25) (N:=some 82) (v:=undef) (a':=?_) #[true,true,true,true,true,true,true,true,true,true,true,true,true,true,true,true,true,true,true,true,true,true,true,true,true,true,false,false,false,false] rfl rfl (any_of HT_.out (by kernel_rfl)) (fun _ _ _ h=>h) (Or.inr ⟨by rfl,rfl⟩) ?_ ?_;rotate_left;(focus (simp only [Act.put,sA_,sZ_,sS_,i64_w,i32_w];rfl))));refine pure_ (i:=26) (N:=some 83) (v:=?_) (a':=?_) #[true,true,true,true,true,true,true,true,true,true,true,true,true,true,true,true,true,true,true,true,true,true,true,true,true,true,true,false,false,false] rfl rfl (any_of HT_.out (by kernel_rfl)) (fun _ _ _ h=>h) (Or.inl ⟨by rfl,?_⟩) ?_ ?_;rotate_left;(focus (intro w';go_simp;with_reducible rfl));rotate_left;(focus (simp only [Act.put,sA_,sZ_,sS_,i64_w,i32_w];rfl));refine pure_ (i:=27) (N:=some 5) (v:=?_) (a':=?_) #[true,true,true,true,true,true,true,true,true,true,true,true,true,true,true,true,true,true,true,true,true,true,true,true,true,true,true,true,false,false] rfl rfl (any_of HT_.out (by kernel_rfl)) (fun _ _ _ h=>h) (Or.inl ⟨by rfl,?_⟩) ?_ ?_;rotate_left;(focus (intro w';go_simp;with_reducible rfl));rotate_left;(focus (simp only [Act.put,sA_,sZ_,sS_,i64_w,i32_w];rfl));refine pure_ (i:=28) (N:=some 6) (v:=?_) (a':=?_) #[true,true,true,true,true,true,true,true,true,true,true,true,true,true,true,true,true,true,true,true,true,true,true,true,true,true,true,true,true,false] rfl rfl (any_of HT_.out (by kernel_rfl)) (fun _ _ _ h=>h) (Or.inl ⟨by rfl,?_⟩) ?_ ?_;rotate_left;(focus (intro w';go_simp;with_reducible rfl));rotate_left;(focus (simp only [Act.put,sA_,sZ_,sS_,i64_w,i32_w];rfl));refine pure_ (i:=29) (N:=some 7) (v:=?_) (a':=?_) #[true,true,true,true,true,true,true,true,true,true,true,true,true,true,true,true,true,true,true,true,true,true,true,true,true,true,true,true,true,true] rfl rfl (any_of HT_.out (by kernel_rfl)) (fun _ _ _ h=>h) (Or.inl ⟨by rfl,?_⟩) ?_ ?_;rotate_left;(focus (intro w';go_simp;with_reducible rfl));rotate_left;(focus (simp only [Act.put,sA_,sZ_,sS_,i64_w,i32_w];rfl));refine done_ (done_of HT_.out (by kernel_rfl)) ?_;(try go_wp2);go_meet
    case rel=>exact ⟨_,_,_,rfl,rfl,rfl,⟨HR_.out⟩,⟨qz11⟩⟩
  by_cases h3:a0_0=3
  ·have HR_:=Aside0.mk (HR0_.out.trans ((if_neg (fun e=>e.elim h1 h6)).trans ((if_neg (fun e=>e.elim h2 h4)).trans ((if_neg h5).trans (if_pos h3)))))
   have e1_:(a0_0 == 1)=false:=beq_eq_false_iff_ne.mpr h1;have e6_:(a0_0 == 6)=false:=beq_eq_false_iff_ne.mpr h6;have e2_:(a0_0 == 2)=false:=beq_eq_false_iff_ne.mpr h2;have e4_:(a0_0 == 4)=false:=beq_eq_false_iff_ne.mpr h4;have e5_:(a0_0 == 5)=false:=beq_eq_false_iff_ne.mpr h5;have e3_:(a0_0 == 3)=true:=beq_iff_eq.mpr h3;clear HR0_ h1 h6 h2 h4 h5 h3;(try go_wp2);go_meet
   case rel=>exact ⟨_,_,_,rfl,rfl,rfl,⟨HR_.out⟩,⟨qz11⟩⟩
  have HR_:=Aside0.mk (HR0_.out.trans ((if_neg (fun e=>e.elim h1 h6)).trans ((if_neg (fun e=>e.elim h2 h4)).trans ((if_neg h5).trans (if_neg h3)))));have e1_:(a0_0 == 1)=false:=beq_eq_false_iff_ne.mpr h1;have e6_:(a0_0 == 6)=false:=beq_eq_false_iff_ne.mpr h6;have e2_:(a0_0 == 2)=false:=beq_eq_false_iff_ne.mpr h2;have e4_:(a0_0 == 4)=false:=beq_eq_false_iff_ne.mpr h4;have e5_:(a0_0 == 5)=false:=beq_eq_false_iff_ne.mpr h5;have e3_:(a0_0 == 3)=false:=beq_eq_false_iff_ne.mpr h3;clear HR0_ h1 h6 h2 h4 h5 h3;go_wp2;go_ret;exact ⟨by rw [HR_.out];rfl,qz11⟩
 case rest=>
  obtain ⟨a_,b_,c_,rfl,rfl,rfl,HR_,HB⟩:=hcut;cases a_ <;> cases b_ <;> cases c_
  all_goals
   go_wp2;go_ret;exact ⟨by rw [HR_.out];rfl,by repeat (first|exact HB.out|apply below_alloc|apply pw_below_drewN|apply below_drew1)⟩

/-! ### impl_GoalOk: function 16 -/
def impl_GoalOk.f (a0_0:Int) (l0_1:List (S63)) (l0_2:List (S63)) (l0_3:List (S63)):Option (Bool):=if a0_0=6 then (some false) else ((impl_goalShape.f a0_0 l0_1 l0_2 l0_3).bind fun t259=>(some t259))
set_option maxHeartbeats 8000000 in
set_option maxRecDepth 100000 in
theorem impl_GoalOk.calls (a0_0:Int) (A0_1:Option Addr) (c0_1:Nat) (l0_1:List (S63)) (A0_2:Option Addr) (c0_2:Nat) (l0_2:List (S63)) (A0_3:Option Addr) (c0_3:Nat) (l0_3:List (S63)) (r:Bool) (w:World) (hr0_1:Kd.C k63 w A0_1 l0_1.length l0_1) (hc0_1:l0_1.length≤c0_1) (hr0_2:Kd.C k63 w A0_2 l0_2.length l0_2) (hc0_2:l0_2.length≤c0_2) (hr0_3:Kd.C k63 w A0_3 l0_3.length l0_3) (hc0_3:l0_3.length≤c0_3) (h:impl_GoalOk.f a0_0 l0_1 l0_2 l0_3=some r) :
  Calls Tryz.prog 16 #[.agg #[.int .i64 a0_0,.slice A0_1 l0_1.length c0_1,.slice A0_2 l0_2.length c0_2,.slice A0_3 l0_3.length c0_3]] w fun e w'=>e = .returned (.bool r)∧Below w.heap.size w w':=by
 have hu24:=Tryz.underlying24;have HR0_1:=Aside0.mk hr0_1;have HC0_1:=Aside0.mk hc0_1;clear hr0_1 hc0_1;have HR0_2:=Aside0.mk hr0_2;have HC0_2:=Aside0.mk hc0_2;clear hr0_2 hc0_2;have HR0_3:=Aside0.mk hr0_3;have HC0_3:=Aside0.mk hc0_3;clear hr0_3 hc0_3;have HB:=Aside0.mk (Below.refl w.heap.size w);have H:(if a0_0=6 then (some false) else ((impl_goalShape.f a0_0 l0_1 l0_2 l0_3).bind fun t259=>(some t259)))=some r:=h;clear h;by_cases c2:a0_0=6
 ·rw [if_pos c2] at H
  have c2b0:(a0_0 == 6)=true:=beq_iff_eq.mpr c2;have c2b1:(a0_0 != 6)=false:=bne_eq_false_iff_eq.mpr c2;clear c2;obtain rfl:=Option.some.inj H;go_enter Tryz.func16,Tryz.ntmps16
  go_wp2_with (first|((with_reducible refine gate_dst (N:=1) rfl ?_);refine box_event ?hg (N:=1) ?hd (cs:=#[.int .i64 a0_0,.slice A0_1 l0_1.length c0_1,.slice A0_2 l0_2.length c0_2,.slice A0_3 l0_3.length c0_3]) (t:=24) ?hr ?_;(case hd=>rfl);(case hg=>rfl);(case hr=>first|(go_simp;done)|(go_simp;rfl));intro gb258 hg w3 hbox hb;have n_:=as3 (below_step qz3 hb) (hbox) ((by rw [hg];exact (below_size qz3):w.heap.size≤gb258));clear HB;obtain ⟨HB,BK258,GE258⟩:=n_;clear hb hbox hg;obtain ⟨hcz4_0,hcz4_1,hcz4_2,hcz4_3,hfz4_0,hfz4_1,hfz4_2,hfz4_3⟩:=blk4 BK258.out))
  go_ret;exact ⟨qz2,qz53⟩
 ·rw [if_neg c2] at H
  have c2b0:(a0_0 == 6)=false:=beq_eq_false_iff_ne.mpr c2;have c2b1:(a0_0 != 6)=true:=bne_iff_ne.mpr c2;replace H:=Option.bind_eq_some_iff.mp H;obtain ⟨t259,A50,H⟩:=H;(try dsimp only at H);have A5:=Aside0.mk A50;clear A50;obtain rfl:=Option.some.inj H;go_enter Tryz.func16,Tryz.ntmps16
  go_wp2_with (first|((with_reducible refine gate_dst (N:=1) rfl ?_);refine box_event ?hg (N:=1) ?hd (cs:=#[.int .i64 a0_0,.slice A0_1 l0_1.length c0_1,.slice A0_2 l0_2.length c0_2,.slice A0_3 l0_3.length c0_3]) (t:=24) ?hr ?_;(case hd=>rfl);(case hg=>rfl);(case hr=>first|(go_simp;done)|(go_simp;rfl));intro gb258 hg w6 hbox hb;have n_:=as3 (below_step qz3 hb) (hbox) ((by rw [hg];exact (below_size qz3):w.heap.size≤gb258));clear HB;obtain ⟨HB,BK258,GE258⟩:=n_;clear hb hbox hg;obtain ⟨hcz7_0,hcz7_1,hcz7_2,hcz7_3,hfz7_0,hfz7_1,hfz7_2,hfz7_3⟩:=blk4 BK258.out)|(go_at_call 38;(with_reducible refine (impl_goalShape.calls a0_0 _ _ l0_1 _ _ l0_2 _ _ l0_3 t259 _ ?side1 ?side2 ?side3 ?side4 ?side5 ?side6 A5.out).mono ?_);(case side1=>exact qz8);(case side2=>exact HC0_1.out);(case side3=>exact qz18);(case side4=>exact HC0_2.out);(case side5=>exact qz30);(case side6=>exact HC0_3.out);rintro e w8 ⟨rfl,hb⟩;have n_:=as2 (blk_below (blkp BK258.out) hb) (below_step qz53 hb);clear BK258 HB;obtain ⟨BK258,HB⟩:=n_;clear hb))
  go_ret;exact ⟨qz2,qz53⟩

/-! ### impl_args: function 87 -/
def impl_args.l0:Nat→List (List (S63))→List (S63)→Int→Int→Option ((List (List (S63))))
 | 0,_,_,_,_=>none
 | k+1,x3,x4,x11,x12=>if x12<x11 then ((impl_size.f k x4).bind fun t267=>(if 0≤t267 then (if t267≤(x4.length:Int) then (if x3.length<5864062014805 then (impl_args.l0 k (x3++[(x4.take (t267:Int).toNat)]) (x4.drop (t267:Int).toNat) x11 (wrap64 (x12+1))) else (none)) else (none)) else (none))) else (some x3)
def impl_args.f (k:Nat) (l0:List (S63)):Option ((List (List (S63)))):=if 1≤(l0.length:Int) then (if 0<(l0.length:Int) then ((impl_TrmCell_arity.f ((rd_T63 l0 0).f0) ((rd_T63 l0 0).f1) ((rd_T63 l0 0).f2)).bind fun t266=>(impl_args.l0 k ([]:List (List (S63))) (l0.drop 1) t266 0)) else (none)) else (none)
set_option maxHeartbeats 8000000 in
set_option maxRecDepth 100000 in
theorem impl_args.calls (k:Nat) (P0_:Nat→Prop) (A0:Option Addr) (c0:Nat) (l0:List (S63)) (r:List (List (S63))) (w:World) (hs0:Kd.V k63 63 w w.heap.size (fun k_=>P0_ k_) (.slice A0 l0.length c0) l0) (h:impl_args.f k l0=some r) :
  Calls Tryz.prog 87 #[.slice A0 l0.length c0] w fun e w'=>∃ v0_:Value,e = .returned (v0_)∧Kd.N (Kd.slice 63 k63) 22 w' w.heap.size (fun k_=>(P0_ k_∨w.heap.size≤k_)) v0_ r∧Below w.heap.size w w':=by
 have hu63:=Tryz.underlying63;have HO0:=Aside0.mk (show Kd.V k63 63 w w.heap.size (fun k_=>(P0_ k_∨w.heap.size≤k_)) (.slice A0 l0.length c0) l0 from Kd.V_mono hs0 (fun k_ hk=>.inl hk));have HB:=Aside0.mk (Below.refl w.heap.size w);have H:(if 1≤(l0.length:Int) then (if 0<(l0.length:Int) then ((impl_TrmCell_arity.f ((rd_T63 l0 0).f0) ((rd_T63 l0 0).f1) ((rd_T63 l0 0).f2)).bind fun t266=>(impl_args.l0 k ([]:List (List (S63))) (l0.drop 1) t266 0)) else (none)) else (none))=some r:=h;clear h;by_cases c2:1≤(l0.length:Int)
 ·rw [if_pos c2] at H
  have c2b0:=eq_true c2;have c2b1:decide (1≤(l0.length:Int))=true:=decide_eq_true c2;clear c2;obtain ⟨y260,hy260⟩:∃ y_:List (S63),y_=(l0.drop 1):=⟨_,rfl⟩;replace H:(if 0<(l0.length:Int) then ((impl_TrmCell_arity.f ((rd_T63 l0 0).f0) ((rd_T63 l0 0).f1) ((rd_T63 l0 0).f2)).bind fun t266=>(impl_args.l0 k ([]:List (List (S63))) y260 t266 0)) else (none))=some r:=by first|(rw [hy260];exact H)|exact H
  have Ny260:=Aside0.mk hy260;clear hy260;by_cases c3:0<(l0.length:Int)
  ·rw [if_pos c3] at H
   have c3b0:decide (0<(l0.length:Int))=true:=decide_eq_true c3;have c3b1:decide (0<l0.length)=true:=decide_eq_true (by omega);clear c3;replace H:=Option.bind_eq_some_iff.mp H;obtain ⟨t266,A40,H⟩:=H;(try dsimp only at H);have A4:=Aside0.mk A40;clear A40;have H':=Aside0.mk H;clear H;have q5:(1:Int)≤((l0.length:Int):Int):=of_decide_eq_true qz4;obtain ⟨i05,hi05,_,hsz5,_⟩:=info_parts info63;have hroom5:l0.length≤c0:=(Kd.V_reads' HO0.out).2.1;have hC5:Kd.F k63 _ _ A0 l0.length l0:=(Kd.V_at (base:=w.heap.size) HO0.out).2.2;have hcut5:=cut_from (P:=Tryz.prog) 22 63 .i64 Tryz.underlying22 hi05 3 hsz5 A0 l0.length c0 1 (by omega) q5;have hr5:=Kd.F_cut (m:=(1:Int).toNat) (c:=c0) hC5 (by omega) hroom5;obtain ⟨A5,hA5⟩:∃ A1,A1=(if c0=(1:Int).toNat then A0 else (A0:Option Addr).map (·.add ((1:Int).toNat * 3))):=⟨_,rfl⟩;obtain ⟨c5,hc5⟩:∃ c1,c1=c0 - (1:Int).toNat:=⟨_,rfl⟩;have hy5:y260.length=l0.length - (1:Int).toNat:=(by rw [Ny260.out,List.length_drop] <;> omega);rw [show (l0).drop (1:Int).toNat=y260 from Ny260.out.symm] at hr5;replace hr5:Kd.F k63 _ _ A5 y260.length y260:=(by rw [hA5];exact hr5);rw [← hy5,← hA5,← hc5] at hcut5;have HO264:=Aside0.mk (show Kd.V k63 63 _ w.heap.size _ (.slice A5 y260.length c5) y260 from Kd.V_mk (by rw [hy5,hc5];exact Nat.sub_le_sub_right hroom5 _) hr5);have HC264:=Aside0.mk (show y260.length≤c5 from by rw [hy5,hc5];exact Nat.sub_le_sub_right hroom5 _);clear hr5 hC5 hroom5 hi05 hsz5 hc5;have KY5:=Aside0.mk hy5;have KA5:=Aside0.mk hA5;clear hy5 hA5;replace q5:=eq_true q5;have p265:0≤(0:Int):=(by omega);have q265:0<(l0.length:Int):=of_decide_eq_true qz4;obtain ⟨ad265,e265,hx265_0,hx265_1,hx265_2⟩:=at_T63 (Kd.V_reads' HO0.out).2.2 0 p265 q265;cases e265
   have qi265:(0<l0.length)=True:=eq_true (by omega);(try rw [show ((0:Int)).toNat=0 from rfl] at hx265_0);(try rw [show 0 * 3=0 from rfl] at hx265_0);(try rw [Addr.add_zero'] at hx265_0);(try rw [show ((0:Int)).toNat=0 from rfl] at hx265_1);(try rw [show 0 * 3=0 from rfl] at hx265_1);(try rw [Addr.add_zero'] at hx265_1);(try rw [show ((0:Int)).toNat=0 from rfl] at hx265_2);(try rw [show 0 * 3=0 from rfl] at hx265_2);(try rw [Addr.add_zero'] at hx265_2);replace p265:=eq_true p265;replace q265:=eq_true q265;go_enter Tryz.func87,Tryz.ntmps87
   go_wp2_with (first|(go_at_call 88;(with_reducible refine (impl_TrmCell_arity.calls ((rd_T63 l0 0).f0) ((rd_T63 l0 0).f1) ((rd_T63 l0 0).f2) t266 _ A4.out).mono ?_);rintro e w6 ⟨rfl,hb⟩;have n_:=as3 (Kd.V_below (by (with_reducible repeat (first|apply Kd.V_alloc|apply Kd.V_drewN|apply Kd.V_drew));exact HO0.out) hb) (Kd.V_below (by (with_reducible repeat (first|apply Kd.V_alloc|apply Kd.V_drewN|apply Kd.V_drew));exact HO264.out) hb) (below_step qz3 hb);clear HO0 HO264 HB;obtain ⟨HO0,HO264,HB⟩:=n_;clear hb))
   go_loopg [3,4,12] k (fun kq v3 v4 v12 w'=>∃ (x3_1:List (List (S63))) (x4_1:List (S63)) (x12_1:Int),v12 = .int .i64 x12_1∧Aside0 (impl_args.l0 kq x3_1 x4_1 t266 x12_1=some r)∧Aside0 (kq≤k)∧Aside0 (Kd.N (Kd.slice 63 k63) 22 w' w.heap.size (fun k_=>(P0_ k_∨w.heap.size≤k_)) v3 x3_1)∧Aside0 (Kd.V k63 63 w' w.heap.size (fun k_=>(P0_ k_∨w.heap.size≤k_)∧some k_≠(v3:Value).ownBlock) v4 x4_1)∧Aside0 (Below w.heap.size w w'))
   case atStart=>exact ⟨(([]:List (List (S63)))),(y260),(0),qz5,H',⟨Nat.le_refl _⟩,⟨qz29⟩,⟨by (with_reducible repeat (first|apply Kd.V_alloc|apply Kd.V_drewN|apply Kd.V_drew));exact Kd.V_mono HO264.out (fun _ hk=>⟨hk,(by simp [Value.ownBlock])⟩)⟩,⟨qz1⟩⟩
   case round=>
    clear H';(try clear c1);(try clear c2);(try clear c2b0);(try clear c2b1);(try clear c3);(try clear c3b0);(try clear c3b1);(try clear c5);(try clear q5);(try clear hx265_0);(try clear hx265_1);(try clear hx265_2);(try clear p265);(try clear q265);(try clear q5);obtain ⟨x3_1,x4_1,x12_1,rfl,HA,HK1,HO_3,HO_4,HB⟩:=hrel;cases gk with
    | zero=>exact absurd HA.out (by simp [impl_args.l0])
    | succ k1=>
     have H:=HA.out;clear HA;simp only [impl_args.l0] at H;by_cases c7:x12_1<t266
     ·rw [if_pos c7] at H
      have c7b0:decide (x12_1<t266)=true:=decide_eq_true c7;clear c7;replace H:=Option.bind_eq_some_iff.mp H;obtain ⟨t267,A80,H⟩:=H;(try dsimp only at H);have A8:=Aside0.mk A80;clear A80;by_cases c9:0≤t267
      ·rw [if_pos c9] at H
       have c9b0:=eq_true c9;have c9b1:decide (0≤t267)=true:=decide_eq_true c9;clear c9;by_cases c10:t267≤(x4_1.length:Int)
       ·rw [if_pos c10] at H
        have c10b0:=eq_true c10;have c10b1:decide (t267≤(x4_1.length:Int))=true:=decide_eq_true c10;clear c10;obtain ⟨y268,hy268⟩:∃ y_:List (S63),y_=(x4_1.take (t267:Int).toNat):=⟨_,rfl⟩;replace H:(if x3_1.length<5864062014805 then (impl_args.l0 k1 (x3_1++[y268]) (x4_1.drop (t267:Int).toNat) t266 (wrap64 (x12_1+1))) else (none))=some r:=by first|(rw [hy268];exact H)|exact H
        have Ny268:=Aside0.mk hy268;clear hy268;by_cases c11:x3_1.length<5864062014805
        ·rw [if_pos c11] at H
         have LMc11:=Aside0.mk c11;clear c11;obtain ⟨y273,hy273⟩:∃ y_:List (List (S63)),y_=(x3_1++[y268]):=⟨_,rfl⟩;replace H:(impl_args.l0 k1 y273 (x4_1.drop (t267:Int).toNat) t266 (wrap64 (x12_1+1)))=some r:=by first|(rw [hy273];exact H)|exact H
         have Ny273:=Aside0.mk hy273;clear hy273;have c12b0:=eq_true (of_decide_eq_true qz4:0≤t267);have c13b0:=eq_true (of_decide_eq_true qz4:t267≤(x4_1.length:Int));obtain ⟨y276,hy276⟩:∃ y_:List (S63),y_=(x4_1.drop (t267:Int).toNat):=⟨_,rfl⟩;replace H:(impl_args.l0 k1 y273 y276 t266 (wrap64 (x12_1+1)))=some r:=by first|(rw [hy276];exact H)|exact H
         have Ny276:=Aside0.mk hy276;clear hy276;have H':=Aside0.mk H;clear H;obtain ⟨Ao14,co14,eo14⟩:=Kd.V_slice HO_4.out;subst eo14
         go_wp2_with (first|(go_at_call 70;(with_reducible refine (impl_size.calls k1 _ _ x4_1 t267 _ ?side1 ?side2 A8.out).mono ?_);(case side1=>repeat (first|exact (Kd.V_reads' HO_4.out).2.2|(with_reducible refine Kd.C_alloc ?_ _)|(with_reducible refine Kd.C_drewN ?_ _)|(with_reducible refine Kd.C_drew ?_)));(case side2=>exact (Kd.V_reads' HO_4.out).2.1);rintro e w15 ⟨rfl,hb⟩;have n_:=as3 (Kd.N_below qz58 hb) (Kd.V_below (by (with_reducible repeat (first|apply Kd.V_alloc|apply Kd.V_drewN|apply Kd.V_drew));exact HO_4.out) hb) (below_step qz3 hb);clear HO_3 HO_4 HB;obtain ⟨HO_3,HO_4,HB⟩:=n_;clear hb;have q16:(t267:Int)≤((x4_1.length:Int):Int):=of_decide_eq_true qz4;obtain ⟨i016,hi016,_,hsz16,_⟩:=info_parts info63;have hroom16:x4_1.length≤co14:=(Kd.V_reads' HO_4.out).2.1;have hC16:Kd.F k63 _ _ Ao14 x4_1.length x4_1:=(Kd.V_at (base:=w.heap.size) HO_4.out).2.2;have hcut16:=cut_to (P:=Tryz.prog) 22 63 .i64 Tryz.underlying22 hi016 Ao14 x4_1.length co14 t267 (of_decide_eq_true qz4) q16 hroom16;have hr16:=Kd.F_take (m:=(t267:Int).toNat) hC16 (by omega);have hy16:y268.length=(t267:Int).toNat:=(by rw [Ny268.out,List.length_take];omega);rw [← Ny268.out] at hr16;rw [← hy16] at hcut16;have HO272:=Aside0.mk (show Kd.V k63 63 _ w.heap.size _ (.slice Ao14 y268.length co14) y268 from Kd.V_mk (by omega) hr16);have HC272:=Aside0.mk (show y268.length≤co14 from by omega);clear hr16 hC16 hroom16 hi016 hsz16;have KY16:=Aside0.mk hy16;clear hy16;replace q16:=eq_true q16)|((with_reducible refine gate_builtin (b:=.append) (xs:=#[.tmp 16,.tmp 20]) rfl ?_);at_builtin;refine Kd.N_append (Kd.slice 63 k63) (w0:=w) w.heap.size rfl (.tmp 16) (.tmp 20) 46 22 (.slice none 0 0) 24 rfl Tryz.underlying46 info22 rfl (by decide) (by omega) u3 x3_1 y268 [.slice Ao14 y268.length co14] (fun k_=>(P0_ k_∨w.heap.size≤k_)) (fun k_=>((fun k_=>(P0_ k_∨w.heap.size≤k_))) k_∧some k_≠(u3:Value).ownBlock) rfl rfl ?aP (fun _ hk=>hk) ?aF ?aO ?aB ?aS ?aL ?_;(case aP=>exact (Kd.FK_slice_mk (Kd.V_reads' (Kd.V_mono (ok':=(fun k_=>((fun k_=>(P0_ k_∨w.heap.size≤k_))) k_∧some k_≠(u3:Value).ownBlock)) (HO272.out) (fun k_ hk=>⟨hk.1,hk.2⟩))).2.1 (Kd.V_F (Kd.V_mono (ok':=(fun k_=>((fun k_=>(P0_ k_∨w.heap.size≤k_))) k_∧some k_≠(u3:Value).ownBlock)) (HO272.out) (fun k_ hk=>⟨hk.1,hk.2⟩)))));(case aB=>exact qz3);(case aF=>exact (fun k_ hk=>(.inr (Nat.le_trans (below_size qz3) hk))));(case aO=>exact qz58);(case aS=>exact (below_size qz3));(case aL=>have:=LMc11.out;omega);intro v274 w17 ho hb hg hat;rw [← Ny273.out] at ho;have n_:=as4 (Kd.V_afterv (ok:=(fun k_=>(P0_ k_∨w.heap.size≤k_))) (by (with_reducible repeat (first|apply Kd.V_alloc|apply Kd.V_drewN|apply Kd.V_drew));exact HO_4.out) hg hat) (Kd.V_afterv (ok:=(fun k_=>(P0_ k_∨w.heap.size≤k_))) (by (with_reducible repeat (first|apply Kd.V_alloc|apply Kd.V_drewN|apply Kd.V_drew));exact HO272.out) hg hat) (hb) (ho);clear HO_4 HO272 HB HO_3;obtain ⟨HO_4,HO272,HB,HO275⟩:=n_;clear ho hb hg hat;have q18:(t267:Int)≤((x4_1.length:Int):Int):=of_decide_eq_true qz4;obtain ⟨i018,hi018,_,hsz18,_⟩:=info_parts info63;have hroom18:x4_1.length≤co14:=(Kd.V_reads' HO_4.out).2.1;have hC18:Kd.F k63 _ _ Ao14 x4_1.length x4_1:=(Kd.V_at (base:=w.heap.size) HO_4.out).2.2;have q018:(0:Int)≤(t267:Int):=of_decide_eq_true qz4;have hcut18:=cut_from (P:=Tryz.prog) 22 63 .i64 Tryz.underlying22 hi018 3 hsz18 Ao14 x4_1.length co14 t267 q018 q18;have hr18:=Kd.F_cut (m:=(t267:Int).toNat) (c:=co14) hC18 (by omega) hroom18;obtain ⟨A18,hA18⟩:∃ A1,A1=(if co14=(t267:Int).toNat then Ao14 else (Ao14:Option Addr).map (·.add ((t267:Int).toNat * 3))):=⟨_,rfl⟩;obtain ⟨c18,hc18⟩:∃ c1,c1=co14 - (t267:Int).toNat:=⟨_,rfl⟩;have hy18:y276.length=x4_1.length - (t267:Int).toNat:=(by rw [Ny276.out,List.length_drop] <;> omega);rw [show (x4_1).drop (t267:Int).toNat=y276 from Ny276.out.symm] at hr18;replace hr18:Kd.F k63 _ _ A18 y276.length y276:=(by rw [hA18];exact hr18);rw [← hy18,← hA18,← hc18] at hcut18;have HO280:=Aside0.mk (show Kd.V k63 63 _ w.heap.size _ (.slice A18 y276.length c18) y276 from Kd.V_mk (by rw [hy18,hc18];exact Nat.sub_le_sub_right hroom18 _) hr18);have HC280:=Aside0.mk (show y276.length≤c18 from by rw [hy18,hc18];exact Nat.sub_le_sub_right hroom18 _);clear hr18 hC18 hroom18 hi018 hsz18 hc18;have KY18:=Aside0.mk hy18;have KA18:=Aside0.mk hA18;clear hy18 hA18;replace q18:=eq_true q18))
         go_roundg k1
         case measure=>have:=HK1.out;omega
         case rel=>exact ⟨(y273),(y276),(wrap64 (x12_1+1)),qz5,H',⟨by have:=HK1.out;omega⟩,⟨by (with_reducible repeat (first|apply Kd.N_alloc|apply Kd.N_drewN|apply Kd.N_drew));exact HO275.out⟩,⟨by (with_reducible repeat (first|apply Kd.V_alloc|apply Kd.V_drewN|apply Kd.V_drew));exact HO280.out⟩,⟨qz1⟩⟩
        ·rw [if_neg c11] at H
         exact absurd H (by simp)
       ·rw [if_neg c10] at H
        exact absurd H (by simp)
      ·rw [if_neg c9] at H
       exact absurd H (by simp)
     ·rw [if_neg c7] at H
      have c7b0:decide (x12_1<t266)=false:=decide_eq_false c7;clear c7;obtain rfl:=Option.some.inj H;go_wp2;go_ret;exact ⟨_,qz2,qz58,qz1⟩
  ·rw [if_neg c3] at H
   exact absurd H (by simp)
 ·rw [if_neg c2] at H
  exact absurd H (by simp)

/-! ### impl_text: function 60 -/
/-- a builder in block b: where it lies, the value of its row, and the bytes that it holds -/
def BP (base b:Nat) (p v:Value) (l:List UInt8) (W:World):Prop:=
 base≤b∧W.heap[b]?=some (.cells #[p,v] 84 (0,0))∧W.ownsRowF base 5 1 v l.length (Lib.byteCells l)∧v.ownBlock≠some b
def BS (base b:Nat) (v:Value) (l:List UInt8) (W:World):Prop:=∃ p,(p = .pointer none∨p = .pointer (some ⟨b,0,none⟩))∧BP base b p v l W
theorem grown_of_below {W W':World} (h:Below W.heap.size W W') (row:Option Nat):W.grownBy W' row:=⟨h.os,h.tape,h.output,h.size,fun i hi _=>h.block i hi⟩
theorem BP.lt {base b:Nat} {p v:Value} {l:List UInt8} {W:World} (h:BP base b p v l W):b<W.heap.size:=(Array.getElem?_eq_some_iff.1 h.2.1).1
theorem BP.step {base b:Nat} {p v:Value} {l:List UInt8} {W W':World} {row:Option Nat} (h:BP base b p v l W) (hg:W.grownBy W' row) (h1:some b≠row) (h2:v.ownBlock=none∨v.ownBlock≠row):BP base b p v l W':=
 ⟨h.1,(hg.block b h.lt h1).trans h.2.1,h.2.2.1.kept hg h2,h.2.2.2⟩
theorem BS.lt {base b:Nat} {v:Value} {l:List UInt8} {W:World} (h:BS base b v l W):b<W.heap.size:=by
 obtain ⟨p,_,h⟩:=h;exact h.lt
theorem BS.below {base b:Nat} {v:Value} {l:List UInt8} {W W':World} (h:BS base b v l W) (hb:Below W.heap.size W W'):BS base b v l W':=by
 obtain ⟨p,hp,h⟩:=h;refine ⟨p,hp,h.step (grown_of_below hb none) (by simp) ?_⟩;cases hv:v.ownBlock with
 | none=>exact .inl rfl
 | some k=>exact .inr (by simp)
theorem BS.own_lt {base b:Nat} {v:Value} {l:List UInt8} {W:World} (h:BS base b v l W):∀ k,v.ownBlock=some k→base≤k∧k<W.heap.size:=by
 obtain ⟨p,_,h⟩:=h;exact h.2.2.1.lt
/-- what stands in all blocks but the builder's and its row's -/
structure KB (W W':World) (b:Nat) (v:Value):Prop where
 os:W'.os=W.os
 tape:W'.tape=W.tape
 output:W'.output=W.output
 size:W.heap.size≤W'.heap.size
 block:∀ k,k<W.heap.size→k≠b→some k≠v.ownBlock→W'.heap[k]?=W.heap[k]?
theorem KB.below {W W':World} {base b:Nat} {v:Value} {l:List UInt8} (h:KB W W' b v) (hb:BS base b v l W):Below base W W':=
 ⟨h.os,h.tape,h.output,h.size,fun k hk=>h.block k (by obtain ⟨p,_,h1⟩:=hb;have:=h1.1;have:=h1.lt;omega) (by obtain ⟨p,_,h1⟩:=hb;have:=h1.1;omega) (fun e=>by have:=(hb.own_lt k e.symm).1;omega)⟩
theorem bld_type:(Tryz.prog.info? 84).map (·.size)=some 2:=by kernel_rfl
set_option maxRecDepth 100000 in
theorem copyCheck_used (base b:Nat) (v:Value) (l:List UInt8) (W:World) (h:BP base b (.pointer (some ⟨b,0,none⟩)) v l W) :
  Calls Tryz.prog 107 #[.pointer (some ⟨b,0,none⟩)] W fun e w'=>e = .returned (.tuple #[])∧W=w':=by
 obtain ⟨j,hj,_⟩:=Option.map_eq_some_iff.1 bld_type;have h0:W.cell? ⟨b,0,none⟩=some (.pointer (some ⟨b,0,none⟩)):=by rw [Lib.cell_of_heap h.2.1];rfl
 clear h;go_enter Tryz.func107,Tryz.ntmps107;go_wp2;rw [Lib.run_neq_ptr_same W _ Tryz.underlying82 hj];go_wp2
 go_end0
 exact ⟨rfl,rfl⟩
theorem bld_lies:liesAt Tryz.prog Tryz.prog.depth 84 (2 / Tryz.prog.cellsOf 84) 0 84 1=true:=by kernel_rfl
set_option maxRecDepth 100000 in
theorem copyCheck_fresh (base b:Nat) (v:Value) (l:List UInt8) (W:World) (h:BP base b (.pointer none) v l W) :
  Calls Tryz.prog 107 #[.pointer (some ⟨b,0,none⟩)] W fun e w'=>e = .returned (.tuple #[])∧W.setCell ⟨b,0,none⟩ (.pointer (some ⟨b,0,none⟩))=w':=by
 obtain ⟨j,hj,hjs⟩:=Option.map_eq_some_iff.1 bld_type;have h0:W.cell? ⟨b,0,none⟩=some (.pointer none):=by rw [Lib.cell_of_heap h.2.1];rfl
 have hsh:W.shape? b=some (84,2):=by unfold World.shape?;rw [h.2.1];rfl
 have hfz:W.frozen? ⟨b,0,none⟩=false:=Lib.frozen_of_heap h.2.1 0;clear h;go_enter Tryz.func107,Tryz.ntmps107;go_wp2;rw [Lib.run_to_unsafe W ⟨b,0,none⟩ Tryz.underlying82 Tryz.underlying133 hj (by rw [hjs];decide) hsh (Nat.zero_lt_succ 1)];simp only [Result.andThen];rw [Oper.upon_value];go_wp2;rw [run_callFunc_extern Tryz.func126 (by kernel_rfl) (by kernel_rfl) (by kernel_rfl) (e:=Extern.AbiNoEscape.same) (by kernel_rfl)];rw [Lib.run_noEscape];simp only [Result.andThen];rw [Oper.upon_value];go_wp2;rw [Lib.run_from_unsafe W ⟨b,0,none⟩ Tryz.underlying133 Tryz.underlying82 hj hsh bld_lies];simp only [Result.andThen];rw [Oper.upon_value];go_wp2
 go_end0
 exact ⟨rfl,rfl⟩
theorem own_set {w:World} {base e n b:Nat} {v:Value} {xs:List Value} (h:w.ownsRowF base e 1 v n xs) (hb:v.ownBlock≠some b) (j:Nat) (u:Value):(w.setCell ⟨b,j,none⟩ u).ownsRowF base e 1 v n xs:=
 h.kept (row:=some b) ⟨rfl,rfl,rfl,by simp [World.setCell],fun k _ hk=>Below.heap_setCell w ⟨b,j,none⟩ u k (fun e=>hk (by rw [e]))⟩ (Or.inr hb)
theorem BP.used {base b:Nat} {p v:Value} {l:List UInt8} {W:World} (h:BP base b p v l W) (q:Value):BP base b q v l (W.setCell ⟨b,0,none⟩ q):=by
 refine ⟨h.1,?_,?_,h.2.2.2⟩
 ·have:=h.2.1
  simp [World.setCell,Array.getElem?_modify,this]
 ·exact own_set h.2.2.1 h.2.2.2 0 q
theorem KB.refl (W:World) (b:Nat) (v:Value):KB W W b v:=⟨rfl,rfl,rfl,Nat.le_refl _,fun _ _ _ _=>rfl⟩
theorem KB.set {W W':World} {b:Nat} {v:Value} (h:KB W W' b v) (j:Nat) (u:Value):KB W (W'.setCell ⟨b,j,none⟩ u) b v:=
 ⟨h.os,h.tape,h.output,by simpa [World.setCell] using h.size,fun k hk h1 h2=>(Below.heap_setCell W' ⟨b,j,none⟩ u k h1).trans (h.block k hk h1 h2)⟩
theorem KB.grown {W W1 W':World} {b:Nat} {v:Value} (h:KB W W1 b v) (hg:W1.grownBy W' v.ownBlock):KB W W' b v:=
 ⟨hg.os.trans h.os,hg.tape.trans h.tape,hg.output.trans h.output,Nat.le_trans h.size hg.size,fun k hk h1 h2=>(hg.block k (Nat.lt_of_lt_of_le hk h.size) h2).trans (h.block k hk h1 h2)⟩
theorem KB.then_ {W W1 W':World} {b:Nat} {v v1:Value} (h:KB W W1 b v) (k:KB W1 W' b v1) (hv:v1.ownBlock=v.ownBlock∨∃ g,v1.ownBlock=some g∧W.heap.size≤g):KB W W' b v:=
 ⟨k.os.trans h.os,k.tape.trans h.tape,k.output.trans h.output,Nat.le_trans h.size k.size,fun i hi h1 h2=>(k.block i (Nat.lt_of_lt_of_le hi h.size) h1 (by
  rcases hv with e|⟨g,e,hg⟩
  ·rw [e];exact h2
  ·rw [e];intro e;injection e with e;omega)).trans (h.block i hi h1 h2)⟩
theorem KB.of_below {W W':World} (h:Below W.heap.size W W') (b:Nat) (v:Value):KB W W' b v:=⟨h.os,h.tape,h.output,h.size,fun k hk _ _=>h.block k hk⟩
theorem hat_then {W W1:World} {v v1 v2:Value} (hs:W.heap.size≤W1.heap.size) (h:v1.ownBlock=v.ownBlock∨∃ g,v1.ownBlock=some g∧W.heap.size≤g) (k:v2.ownBlock=v1.ownBlock∨∃ g,v2.ownBlock=some g∧W1.heap.size≤g):v2.ownBlock=v.ownBlock∨∃ g,v2.ownBlock=some g∧W.heap.size≤g:=by
 rcases k with k|⟨g,k,hg⟩
 ·rw [k];exact h
 ·exact .inr ⟨g,k,Nat.le_trans hs hg⟩
/-- where the row lies behind bytes that were appended -/
theorem str_hat (w:World) (base:Nat) (t u ty e:TypeId) (i:TypeInfo) (ht:Tryz.prog.underlying t=some (.slice e)) (hu:Tryz.prog.underlying u=some .string) (hi:Tryz.prog.info? e=some i) (hz:i.zero=some (.int .u8 0))
  (hsize:i.size=1) (hby:i.bytes=1) (v:Value) (n:Nat) (xs:List Value) (hown:w.ownsRowF base e 1 v n xs) (s:ByteArray) (h63:n+s.size≤maxLen) (hbytes:n+s.size≤140737488355328) (hbase:base≤w.heap.size) :
  ∃ v' w',(Builtin.append_ #[t,u] ty #[v,.string s]).run Tryz.prog w = .ok v' w'∧w'.ownsRowF base e 1 v' (n+s.size) (xs++Lib.strCells s)∧w.grownBy w' v.ownBlock∧(v'.ownBlock=v.ownBlock∨∃ g,v'.ownBlock=some g∧w.heap.size≤g):=by
 obtain ⟨v',w',h1,h2,h3,_⟩:=Lib.run_append_own_stringF (P:=Tryz.prog) w base t u ty e i ht hu hi hz hsize hby v n xs hown s h63 hbytes hbase;refine ⟨v',w',h1,h2,h3,?_⟩;have hsmall:n+s.size≤9223372036854775807:=by simp only [maxLen] at h63;omega
 rcases hown.2 with ⟨rfl,rfl⟩|⟨g,cap,cur,fz,rfl,hbg,hg,hfz,hnc,hcm,hcs,htake⟩
 ·obtain ⟨v2,w2,g1,g2,_,_⟩:=Lib.run_append_own_stringF (P:=Tryz.prog) w w.heap.size t u ty e i ht hu hi hz hsize hby (.slice none 0 0) 0 xs ⟨hown.1,.inl ⟨rfl,rfl⟩⟩ s h63 hbytes (Nat.le_refl _)
  rw [h1] at g1;injection g1 with g1 _
  subst g1;cases hv:v'.ownBlock with
  | none=>exact .inl rfl
  | some k=>exact .inr ⟨k,rfl,(g2.lt k hv).1⟩
 ·have hxl:xs.length=n:=by simpa using hown.1
  by_cases hroom:n+s.size≤cap
  ·have hr:=Lib.run_append_room_stringF (P:=Tryz.prog) w t u ty e i ht hu hi hsize g n cap cur fz hg (by simpa using hfz) s hroom (by simp at hcs;omega)
   rw [h1] at hr;injection hr with hr _
   subst hr;exact .inl rfl
  ·have holds:∀ j u,xs[j]?=some u→w.cell? ((⟨g,0,none⟩:Addr).add j)=some u:=hown.cells (g:=g) rfl
   have hr:=Lib.run_append_grow_string (P:=Tryz.prog) w t u ty e i (.int .u8 0) ht hu hi hz ⟨g,0,none⟩ n cap xs (by rw [hsize];simpa using hxl) holds s (by omega) (by omega) (by rw [hby];exact growslice_fits (by omega) (by omega));rw [h1] at hr;injection hr with hr _
   subst hr;exact .inr ⟨_,rfl,Nat.le_refl _⟩
theorem byte_info:(Tryz.prog.info? 5).map (fun i=>(i.zero,i.size,i.bytes))=some (some (.int .u8 0),1,1):=by kernel_rfl
/-- the operation, for the walk -/
theorem wp_append_str {ops:Array Oper} {rest:List Oper} {o:Oper} {a:Act} {w:World} {Q:Exit→Act→World→Prop} (hgd:o.guard=none) (sl x:Operand) 
  (ho:o.op = .call { callee:=.builtin .append,args:=#[sl,x],argTypes:=#[30,9] }) (base b:Nat) (p v:Value) (l:List UInt8) (hs:a.eval sl=v) (hown:BP base b p v l w) (s:ByteArray) (hx:a.eval x = .string s)
  (hlen:l.length+s.size≤140737488355328) (hbase:base≤w.heap.size)
  (h:∀ v' w',BP base b p v l w→w'.heap[b]?=some (.cells #[p,v] 84 (0,0))→w'.ownsRowF base 5 1 v' (l++s.data.toList).length (Lib.byteCells (l++s.data.toList))→w.grownBy w' v.ownBlock→(v'.ownBlock=v.ownBlock∨∃ g,v'.ownBlock=some g∧w.heap.size≤g)→wpList Tryz.prog ops Q rest (a.put o.dst v') w'):wpList Tryz.prog ops Q (o :: rest) a w:=by
 obtain ⟨i0,hi,hz0,hz1,hz2⟩:=info_parts byte_info;refine wpList_plain hgd fun K hK=>?_
 obtain ⟨v',w',hr,h2,h3,h4⟩:=str_hat w base 30 9 o.type 5 i0 Tryz.underlying30 Tryz.underlying9 hi hz0 hz1 hz2 v l.length (Lib.byteCells l) hown.2.2.1 s (by unfold maxLen;omega) hlen hbase;unfold Oper.wp execOp;simp only [ho,resolve,invoke,builtin,Sem.run_bind,Sem.run_pure,Result.andThen_ok,List.map_toArray,List.map_cons,List.map_nil,hs,hx,hr];refine hK _ _ (h v' w' hown ((h3.block b hown.lt (fun e=>hown.2.2.2 e.symm)).trans hown.2.1) ?_ h3 h4);rw [Lib.byteCells_append,← Lib.strCells_eq,List.length_append,← Lib.size_eq];exact h2
set_option maxHeartbeats 2000000 in
set_option maxRecDepth 100000 in
theorem write_used (base b:Nat) (v:Value) (l:List UInt8) (s:ByteArray) (W0 W:World) (h:BP base b (.pointer (some ⟨b,0,none⟩)) v l W) (hlen:l.length+s.size≤140737488355328)
  (hc:Calls Tryz.prog 107 #[.pointer (some ⟨b,0,none⟩)] W0 fun e w'=>e = .returned (.tuple #[])∧W=w') :
  Calls Tryz.prog 85 #[.pointer (some ⟨b,0,none⟩),.string s] W0 fun e w'=>e = .returned (.tuple #[.int .i64 s.size,.nilIface])∧∃ v',BP base b (.pointer (some ⟨b,0,none⟩)) v' (l++s.data.toList) w'∧KB W w' b v∧(v'.ownBlock=v.ownBlock∨∃ g,v'.ownBlock=some g∧W.heap.size≤g):=by
 have H:=Aside0.mk h;have HC:=Aside0.mk hc;have hsz:s.size≤9223372036854775807:=by omega
 have hbw:base≤W.heap.size:=by have:=h.1;have:=h.lt;omega
 have c1:W.cell? ⟨b,1,none⟩=some v:=by rw [Lib.cell_of_heap h.2.1];rfl
 clear h hc;go_enter Tryz.func85,Tryz.ntmps85
 go_wp2_with (first
  | (go_at_call 107;(with_reducible refine HC.out.mono ?_);rintro e w1 ⟨rfl,rfl⟩)
  | (at_builtin;refine wp_append_str rfl _ _ rfl base b _ _ l rfl H.out s rfl hlen hbw ?_))
 intro v' w2 h0 h1 h2 h3 h4;have hb:=h0.1;clear h0;have HG:=Aside0.mk h3;have HH:=Aside0.mk h4;have HO:=Aside0.mk h2;have HB2:=Aside0.mk h1;have f1:w2.frozen? ⟨b,1,none⟩=false:=Lib.frozen_of_heap h1 1;have d1:w2.cell? ⟨b,1,none⟩=some v:=by rw [Lib.cell_of_heap h1];rfl
 clear h1 h2 h3 h4
 obtain ⟨ao,n',cap,rfl⟩:∃ ao n' cap,v' = .slice ao n' cap:=by
  rcases HO.out.2 with ⟨hv,_⟩|⟨g,cap,cur,fz,hv,_⟩
  ·exact ⟨_,_,_,hv⟩
  ·exact ⟨_,_,_,hv⟩
 go_wp2;go_ret2;refine ⟨rfl,_,⟨hb,?_,?_,?_⟩,((KB.refl W b v).grown HG.out).set 1 _,HH.out⟩
 ·have:=HB2.out
  simp [World.setCell,Array.getElem?_modify,this]
 ·rw [show (l++s.data.toList).length=l.length+s.size by rw [List.length_append,← Lib.size_eq]]
  exact own_set HO.out (Lib.ownBlock_neF HO.out HB2.out (by decide)) 1 _
 ·exact Lib.ownBlock_neF HO.out HB2.out (by decide)
/-- WriteString: the bytes go in behind -/
theorem write_any (base b:Nat) (v:Value) (l:List UInt8) (s:ByteArray) (W:World) (h:BS base b v l W) (hlen:l.length+s.size≤140737488355328) :
  Calls Tryz.prog 85 #[.pointer (some ⟨b,0,none⟩),.string s] W fun e w'=>e = .returned (.tuple #[.int .i64 s.size,.nilIface])∧∃ v',BS base b v' (l++s.data.toList) w'∧KB W w' b v∧(v'.ownBlock=v.ownBlock∨∃ g,v'.ownBlock=some g∧W.heap.size≤g):=by
 obtain ⟨p,hp|hp,h⟩:=h
 ·subst hp
  refine (write_used base b v l s W _ (h.used _) hlen (copyCheck_fresh base b v l W h)).mono ?_;rintro e w' ⟨he,v',h1,h2,h3⟩;refine ⟨he,v',⟨_,.inr rfl,h1⟩,((KB.refl W b v).set 0 _).then_ h2 (.inl rfl),?_⟩;rcases h3 with h3|⟨g,h3,h4⟩
  ·exact .inl h3
  ·exact .inr ⟨g,h3,by simpa [World.setCell] using h4⟩
 ·subst hp
  refine (write_used base b v l s W W h hlen (copyCheck_used base b v l W h)).mono ?_;rintro e w' ⟨he,v',h1,h2,h3⟩;exact ⟨he,v',⟨_,.inr rfl,h1⟩,h2,h3⟩

/-! ### text -/
def textL (f:List Cat.Cell→Option (List UInt8)):Bool→List (List Cat.Cell)→Option (List UInt8)
 | _,[]=>some []
 | first,a :: as_=>(f a).bind fun x=>(textL f false as_).bind fun y=>some ((if first=true then 40 else 44) :: (x++y))
def textF (K:Nat):Nat→List Cat.Cell→Option (List UInt8)
 | 0,_=>none
 | _+1,[]=>none
 | k+1,c :: r=>if (-9223372036854775808≤c.f1∧c.f1≤9223372036854775807)∧(c.f0=1∨c.f0=2∨c.f0=3) then
   (impl_args.f K (c :: r)).bind fun as_=>(textL (textF K k) true as_).bind fun m=>(impl_TrmCell_arity.f c.f0 c.f1 c.f2).bind fun n=>some (Cat.word c++(m++if 0<n then [41] else []))
  else none
/-- the table that Itoa reads, whatever is done from block B on -/
def TabB (B : Nat) (W : World) : Prop := Lib.TabBelow Tryz.prog B W "internal/strconv.uint64pow10" .u64 Lib.pow10Tab
def TabT (W:World):Prop:=TabB W.heap.size W
theorem TabB.step {B:Nat} {W W':World} (h:TabB B W) (hb:Below B W W'):TabB B W':=fun w2 h2=>h w2 (hb.trans h2)
theorem TabT.below {W W':World} (h:TabT W) (hb:Below W.heap.size W W'):TabT W':=fun w2 h2=>h w2 (hb.trans (h2.mono hb.size))
theorem itoa_calls (n:Int) (h0:-9223372036854775808≤n) (h1:n≤9223372036854775807) (B:Nat) (W:World) (hT:TabB B W) :
  Calls Tryz.prog 86 #[.int .i64 n] W fun e w'=>e = .returned (.string ⟨(Lib.itoa n).toArray⟩)∧Below W.heap.size W w':=by
 refine (Tryz.strconv_Itoa n h0 h1 W (hT W (Below.refl _ _))).mono ?_;rintro e w' ⟨h,k,os,rfl⟩;exact ⟨h,Lib.below_grow _ W (Nat.le_refl _) k os⟩
/-- what text leaves: the bytes behind those that there were -/
def TS (B b:Nat) (v:Value) (W:World) (l:List UInt8) (w':World):Prop:=∃ v',BS B b v' l w'∧KB W w' b v∧(v'.ownBlock=v.ownBlock∨∃ g,v'.ownBlock=some g∧W.heap.size≤g)
theorem TS.mk0 {B b:Nat} {v:Value} {W:World} {l:List UInt8} (h:BS B b v l W):TS B b v W l W:=⟨v,h,KB.refl _ _ _,.inl rfl⟩
theorem TS.step {B b:Nat} {v:Value} {W w1 w2:World} {l:List UInt8} (h:TS B b v W l w1) (hb:Below w1.heap.size w1 w2):TS B b v W l w2:=by
 obtain ⟨v1,h1,h2,h3⟩:=h;exact ⟨v1,h1.below hb,h2.then_ (KB.of_below hb b v1) h3,h3⟩
theorem TS.size {B b:Nat} {v:Value} {W w1:World} {l:List UInt8} (h:TS B b v W l w1):W.heap.size≤w1.heap.size:=by
 obtain ⟨v1,h1,h2,h3⟩:=h;exact h2.size
theorem TS.write {B b:Nat} {v:Value} {W w1:World} {l:List UInt8} (h:TS B b v W l w1) (s:ByteArray) (m:List UInt8) (hm:s.data.toList=m) (hlen:l.length+m.length≤140737488355328) :
  Calls Tryz.prog 85 #[.pointer (some ⟨b,0,none⟩),.string s] w1 fun e w'=>e = .returned (.tuple #[.int .i64 s.size,.nilIface])∧TS B b v W (l++m) w':=by
 subst hm;obtain ⟨v1,h1,h2,h3⟩:=h;refine (write_any B b v1 l s w1 h1 (by rw [← Lib.size_eq] at hlen;exact hlen)).mono ?_;rintro e w' ⟨he,v',g1,g2,g3⟩;exact ⟨he,v',g1,h2.then_ g2 h3,hat_then h2.size h3 g3⟩
theorem TS.foot {B b:Nat} {v:Value} {W w1:World} {l:List UInt8} (h:TS B b v W l w1) {ok:Nat→Prop} (hok:∀ k,ok k→k≠b∧some k≠v.ownBlock) {A:Option Addr} {n:Nat} {t:List Cat.Cell} (hF:Kd.F k63 W ok A n t) :
  Kd.F k63 w1 ok A n t:=by
 obtain ⟨v1,h1,h2,h3⟩:=h;exact Kd.F_step hF (fun k hk hlt=>h2.block k hlt (hok k hk).1 (hok k hk).2)
theorem TS.tab {B b:Nat} {v:Value} {W w1:World} {l l0:List UInt8} (h:TS B b v W l w1) (hb:BS B b v l0 W) (hT:TabB B W):TabB B w1:=by
 obtain ⟨v1,h1,h2,h3⟩:=h;exact hT.step (h2.below hb)
/-- arguments in memory beside the builder -/
def TRows (W:World) (ok:Nat→Prop) (v:Value) (ls:List (List Cat.Cell)):Prop:=∃ base,Kd.N (Kd.slice 63 k63) 22 W base ok v ls
theorem TS.rows {B b:Nat} {v:Value} {W w1:World} {l:List UInt8} (h:TS B b v W l w1) {ok:Nat→Prop} (hok:∀ k,ok k→k≠b∧some k≠v.ownBlock) {va:Value} {ls:List (List Cat.Cell)} (hF:TRows W ok va ls):TRows w1 ok va ls:=by
 obtain ⟨v1,h1,h2,h3⟩:=h;obtain ⟨base,hN⟩:=hF;exact ⟨base,Kd.N_step hN (fun k hk hlt=>h2.block k hlt (hok k hk).1 (hok k hk).2)⟩
theorem TRows.below {W W':World} {ok:Nat→Prop} {va:Value} {ls:List (List Cat.Cell)} (h:TRows W ok va ls) (hb:Below W.heap.size W W'):TRows W' ok va ls:=by
 obtain ⟨base,hN⟩:=h;exact ⟨base,Kd.N_below hN hb⟩
theorem TRows.at_ {W:World} {ok:Nat→Prop} {A:Option Addr} {n c:Nat} {ls:List (List Cat.Cell)} (h:TRows W ok (.slice A n c) ls) (j:Nat) (hj:j<ls.length):n=ls.length∧∃ ad A1 c1,A=some ad∧W.cell? (ad.add j)=some (.slice A1 (ls[j]).length c1)∧(ls[j]).length≤c1∧Kd.F k63 W ok A1 (ls[j]).length (ls[j]):=by
 obtain ⟨base,h⟩:=h;obtain ⟨e1,_,_⟩:=Kd.N_reads' h;obtain ⟨g,cap,e2,_⟩:=Kd.N_form h (by omega);injection e2 with e2 e3 e4
 subst e2 e4;obtain ⟨cs,hcl,hM,hcc⟩:=Kd.N_get h [] (j:Int) (by omega) (by omega);rw [Int.toNat_natCast] at hM hcc;have eg:ls.getD j []=ls[j]:=by simp [List.getD,hj]
 rw [eg] at hM;obtain ⟨A1,c1,rfl,ul,ge⟩:=Kd.FK_slice_open hM;have hv:=hcc 0 _ rfl;rw [Nat.add_zero,show (Kd.slice 63 k63).sz=1 from rfl,Nat.mul_one] at hv;exact ⟨e1,_,A1,c1,rfl,hv,ul,Kd.F_mono ge (fun k hk=>hk.1)⟩
theorem targs_calls (W:World) (ok:Nat→Prop) (K:Nat) (c0:Cat.Cell) (t:List Cat.Cell) (A:Option Addr) (c:Nat) (r:List (List Cat.Cell)) (hl:(c0 :: t).length≤c) (hF:Kd.F k63 W ok A (c0 :: t).length (c0 :: t)) (h:impl_args.f K (c0 :: t)=some r) :
  Calls Tryz.prog 87 #[.slice A (t.length+1) c] W fun e w'=>∃ A' c',e = .returned (.slice A' r.length c')∧TRows w' (fun k=>(ok k∨W.heap.size≤k)∧k<w'.heap.size) (.slice A' r.length c') r∧r.length≤9223372036854775807∧Below W.heap.size W w':=by
 refine (impl_args.calls K ok A c (c0 :: t) r W (Kd.V_mk hl hF) h).mono ?_;rintro e w' ⟨v,rfl,hn,hb⟩;obtain ⟨A',c',rfl⟩:=Kd.N_slice hn;exact ⟨A',c',rfl,⟨_,Kd.N_bound hn⟩,(Kd.N_reads' hn).2.2.2.1,hb⟩
theorem thead_cells (c:Cat.Cell) (l:List Cat.Cell) (W:World) (A:Option Addr) (h:Kd.C k63 W A (c :: l).length (c :: l)):∃ ad:Addr,A=some ad∧W.cell? ad=some (.int .i64 c.f0)∧W.cell? ⟨ad.block,ad.off+1,none⟩=some (.int .i64 c.f1)∧W.cell? ⟨ad.block,ad.off+2,none⟩=some (.string c.f2):=by
 obtain ⟨ad,e1,h0,h1,h2⟩:=at_T63 h 0 (Int.le_refl _) (by rw [List.length_cons];omega);exact ⟨ad,e1,h0,h1,h2⟩
def TLoop (B b:Nat) (v:Value) (w4:World) (okE:Nat→Prop) (K k:Nat) (va:Value) (as_:List (List Cat.Cell)) (l m:List UInt8) (j:Nat) (wr:World):Prop:=
 ∃ m1 m2,TS B b v w4 (l++m1) wr∧TRows wr okE va as_∧textL (textF K k) (decide (j=0)) (as_.drop j)=some m2∧m=m1++m2
def TextP (K B b:Nat) (k:Nat):Prop:=∀ (t:List Cat.Cell) (r l:List UInt8) (v:Value) (ok:Nat→Prop) (A:Option Addr) (c:Nat) (W:World),textF K k t=some r→BS B b v l W→TabB B W→(∀ k,ok k→k≠b∧some k≠v.ownBlock)→Kd.F k63 W ok A t.length t→t.length≤c→l.length+r.length≤140737488355328→
  Calls Tryz.prog 60 #[.pointer (some ⟨b,0,none⟩),.slice A t.length c] W fun e w'=>e = .returned (.tuple #[])∧TS B b v W (l++r) w'
theorem TS.call {K B b k:Nat} {v:Value} {W w1:World} {l r:List UInt8} {ok:Nat→Prop} {t:List Cat.Cell} {A:Option Addr} {c:Nat} {l0:List UInt8} (ih:TextP K B b k) (h:TS B b v W l w1) (hb:BS B b v l0 W) (hT:TabB B W) (hok:∀ k,ok k→k≠b∧some k≠v.ownBlock∧k<W.heap.size) (hF:Kd.F k63 w1 ok A t.length t) (hc:t.length≤c) (hr:textF K k t=some r) (hlen:l.length+r.length≤140737488355328) :
  Calls Tryz.prog 60 #[.pointer (some ⟨b,0,none⟩),.slice A t.length c] w1 fun e w'=>e = .returned (.tuple #[])∧TS B b v W (l++r) w':=by
 have hT1:=h.tab hb hT;obtain ⟨v1,h1,h2,h3⟩:=h;refine (ih t r l v1 ok A c w1 hr h1 hT1 (fun k hk=>⟨(hok k hk).1,?_⟩) hF hc hlen).mono ?_
 ·obtain ⟨_,q1,q2⟩:=hok k hk
  rcases h3 with e|⟨g,e,hg⟩
  ·rw [e];exact q1
  ·rw [e];intro e;injection e with e;omega
 ·rintro e w' ⟨he,v2,g1,g2,g3⟩
  exact ⟨he,v2,g1,h2.then_ g2 h3,hat_then h2.size h3 g3⟩
theorem text_start {B b:Nat} {v:Value} {W w2 w4:World} {l l1:List UInt8} {ok:Nat→Prop} (hs:TS B b v W l1 w2) (hb:BS B b v l W) (hT:TabB B W) (hok:∀ k,ok k→k≠b∧some k≠v.ownBlock) (h4:Below w2.heap.size w2 w4) :
  ∃ v4,BS B b v4 l1 w4∧TabB B w4∧(∀ k,(((ok k∧k<W.heap.size)∨w2.heap.size≤k)∧k<w4.heap.size)→k≠b∧some k≠v4.ownBlock∧k<w4.heap.size)∧KB W w4 b v∧(v4.ownBlock=v.ownBlock∨∃ g,v4.ownBlock=some g∧W.heap.size≤g):=by
 have hT2:=hs.tab hb hT;obtain ⟨v4,g1,g2,g3⟩:=hs;refine ⟨v4,g1.below h4,hT2.step (h4.mono (by obtain ⟨p,_,q⟩:=g1;have:=q.1;have:=q.lt;omega)),fun k hk=>?_,g2.then_ (KB.of_below h4 b v4) g3,g3⟩;have hl4:=g1.own_lt;have hl1:=g1.lt;refine ⟨?_,?_,hk.2⟩
 ·rcases hk.1 with ⟨q,_⟩|q
  ·exact (hok k q).1
  ·omega
 ·intro e
  rcases hk.1 with ⟨q,q1⟩|q
  ·rcases g3 with g3|⟨g,g3,g4⟩
   ·exact (hok k q).2 (by rw [← g3];exact e)
   ·rw [g3] at e;injection e with e;omega
  ·have:=(hl4 k e.symm).2;omega
theorem TS.up {B b:Nat} {v v4:Value} {W w4 wr:World} {l:List UInt8} (h:TS B b v4 w4 l wr) (hk:KB W w4 b v) (hv:v4.ownBlock=v.ownBlock∨∃ g,v4.ownBlock=some g∧W.heap.size≤g):TS B b v W l wr:=by
 obtain ⟨v1,g1,g2,g3⟩:=h;exact ⟨v1,g1,hk.then_ g2 hv,hat_then hk.size hv g3⟩
theorem TS.same {B b:Nat} {v4:Value} {w4 wr w6:World} {l l':List UInt8} (h:TS B b v4 w4 l wr) (h':TS B b v4 w4 l' w6) {okE:Nat→Prop} (hok:∀ k,okE k→k≠b∧some k≠v4.ownBlock∧k<w4.heap.size):∀ k,okE k→w6.heap[k]?=wr.heap[k]?:=by
 obtain ⟨v1,g1,g2,g3⟩:=h;obtain ⟨v2,k1,k2,k3⟩:=h';exact fun k hk=>(k2.block k (hok k hk).2.2 (hok k hk).1 (hok k hk).2.1).trans (g2.block k (hok k hk).2.2 (hok k hk).1 (hok k hk).2.1).symm
theorem TRows.same {wr w6:World} {okE:Nat→Prop} {va:Value} {ls:List (List Cat.Cell)} (h:TRows wr okE va ls) (hs:∀ k,okE k→w6.heap[k]?=wr.heap[k]?):TRows w6 okE va ls:=by
 obtain ⟨base,hN⟩:=h;exact ⟨base,Kd.N_step hN (fun k hk _=>hs k hk)⟩
theorem TLoop.next {B b:Nat} {v4:Value} {w4 wr w7:World} {okE:Nat→Prop} {K k:Nat} {va:Value} {as_:List (List Cat.Cell)} {l m m1 x y:List UInt8} {s:UInt8} {j:Nat} (h1:TS B b v4 w4 (l++m1) wr) (h2:TRows wr okE va as_) (hok:∀ k,okE k→k≠b∧some k≠v4.ownBlock∧k<w4.heap.size)
  (h7:TS B b v4 w4 (l++m1++[s]++x) w7) (h4:textL (textF K k) false (as_.drop (j+1))=some y) (hm:m=m1++(s :: (x++y))):TLoop B b v4 w4 okE K k va as_ l m (j+1) w7:=by
 refine ⟨m1++s :: x,y,?_,h2.same (h1.same h7 hok),?_,?_⟩
 ·have e:l++(m1++s :: x)=l++m1++[s]++x:=by simp
  rw [e];exact h7
 ·rw [show decide (j+1=0)=false by simp];exact h4
 ·rw [hm];simp
/-- what a round of text's loop is given -/
theorem TLoop.open_ {B b:Nat} {v4:Value} {w4 wr:World} {okE:Nat→Prop} {K k:Nat} {A:Option Addr} {n c:Nat} {as_:List (List Cat.Cell)} {l m:List UInt8} {j:Nat} (h:TLoop B b v4 w4 okE K k (.slice A n c) as_ l m j wr) (hlt:j<as_.length) :
  ∃ m1 x y ad A1 c1,TS B b v4 w4 (l++m1) wr∧TRows wr okE (.slice A n c) as_∧textF K k as_[j]=some x∧textL (textF K k) false (as_.drop (j+1))=some y∧m=m1++((if j=0 then 40 else 44) :: (x++y))∧A=some ad∧wr.cell? (ad.add j)=some (.slice A1 (as_[j]).length c1)∧(as_[j]).length≤c1∧Kd.F k63 wr okE A1 (as_[j]).length (as_[j]):=by
 obtain ⟨m1,m2,h1,h2,h3,h4⟩:=h;rw [List.drop_eq_getElem_cons hlt,textL] at h3;obtain ⟨x,hx,h3⟩:=Option.bind_eq_some_iff.1 h3;obtain ⟨y,hy,h3⟩:=Option.bind_eq_some_iff.1 h3;obtain rfl:=Option.some.inj h3;obtain ⟨_,ad,A1,c1,e,hc,hl,hF⟩:=h2.at_ j hlt;refine ⟨m1,x,y,ad,A1,c1,h1,h2,hx,hy,?_,e,hc,hl,hF⟩;rw [h4];by_cases h0:j=0 <;> simp [h0]
set_option maxHeartbeats 16000000 in
set_option maxRecDepth 100000 in
theorem impl_text.any (K B b:Nat):∀ k,TextP K B b k:=by
 intro k
 induction k with
 | zero=>intro t r l v ok A c W h;cases h
 | succ k ih=>
  intro t r l v ok A c W h hbs hT hok hF hc hlen;cases t with
  | nil=>cases h
  | cons c0 t=>
  rw [textF] at h;by_cases hcond:(-9223372036854775808≤c0.f1∧c0.f1≤9223372036854775807)∧(c0.f0=1∨c0.f0=2∨c0.f0=3)
  case neg=>rw [if_neg hcond] at h;cases h
  rw [if_pos hcond] at h;obtain ⟨as_,ha,h⟩:=Option.bind_eq_some_iff.1 h;obtain ⟨m,hm,h⟩:=Option.bind_eq_some_iff.1 h;obtain ⟨n,hn,h⟩:=Option.bind_eq_some_iff.1 h;obtain rfl:=Option.some.inj h;obtain ⟨ad,eA,hx0,hx1,hx2⟩:=thead_cells c0 t W A (Kd.F_now hF);subst eA;have hBW:B≤W.heap.size:=by obtain ⟨p,_,h1⟩:=hbs;have:=h1.1;have:=h1.lt;omega
  have hn1:=hcond.1.1;have hn2:=hcond.1.2;simp only [List.length_append] at hlen;have HA:=Aside0.mk ha;have HM:=Aside0.mk hm;have HN:=Aside0.mk hn;have HI:=Aside0.mk ih;have HBS:=Aside0.mk hbs;have HT:=Aside0.mk hT;have HOK:=Aside0.mk hok;have HOKB:=Aside0.mk (show ∀ k,(ok k∧k<W.heap.size)→k≠b∧some k≠v.ownBlock from fun k hk=>hok k hk.1);have HF:=Aside0.mk (Kd.F_bound hF);have HC:=Aside0.mk hc;have HLEN:=Aside0.mk hlen;have HTS0:=Aside0.mk (TS.mk0 hbs);have HBW:=Aside0.mk hBW;have hpos:0<t.length+1:=by omega
  have hk:=hcond.2;clear h ha hm hn ih hbs hT hok hF hc hlen hcond hBW;have HW1:=Aside0.mk (show c0.f0=1→((⟨#[88]⟩:ByteArray)++(⟨(Lib.itoa c0.f1).toArray⟩:ByteArray)).data.toList=Cat.word c0 from fun h=>by rw [Cat.word,if_pos h,ByteArray.data_append];simp);have HW2:=Aside0.mk (show c0.f0=2→(⟨(Lib.itoa c0.f1).toArray⟩:ByteArray).data.toList=Cat.word c0 from fun h=>by rw [Cat.word,if_neg (by omega),if_pos h]);have HW3:=Aside0.mk (show c0.f0=3→c0.f2.data.toList=Cat.word c0 from fun h=>by rw [Cat.word,if_neg (by omega),if_neg (by omega)]);have HL1:=Aside0.mk (show l.length+(Cat.word c0).length≤140737488355328 by have:=HLEN.out;omega);have hil:=Lib.itoa_length_le c0.f1 hn1 hn2;have hs1:(9223372036854775807<1+(Lib.itoa c0.f1).length)=False:=eq_false (by omega);clear hil;rcases hk with hk|hk|hk
  ·have t1:(c0.f0 == 1)=true:=by simpa using hk
   have HK:=Aside0.mk hk;clear hk;go_enter Tryz.func60,Tryz.ntmps60
   go_wp2_with (first
    | (go_at_call 86;(with_reducible refine (itoa_calls c0.f1 hn1 hn2 B _ (HT.out.step ((below_alloc (Below.refl _ _) _).mono HBW.out))).mono ?_);rintro e w1 ⟨rfl,hb1⟩;have HS1:=Aside0.mk ((HTS0.out.step (below_alloc (Below.refl _ _) _)).step hb1);clear hb1)
    | (go_at_call 85;(with_reducible refine (HS1.out.write _ (Cat.word c0) (HW1.out HK.out) HL1.out).mono ?_);rintro e w2 ⟨rfl,hs2⟩;have HS2:=Aside0.mk hs2;clear hs2)
    | (go_at_call 87;(with_reducible refine (targs_calls w2 (fun k=>ok k∧k<W.heap.size) K c0 t (some ad) c as_ HC.out (HS2.out.foot HOKB.out HF.out) HA.out).mono ?_);rintro e w4 ⟨Aa,ca,rfl,hR4,hm4,hb4⟩;have HR4:=Aside0.mk hR4;have HB4:=Aside0.mk hb4;clear hR4 hb4))
   obtain ⟨v4,hq1,hq2,hq3,hq4,hq5⟩:=text_start HS2.out HBS.out HT.out HOK.out HB4.out;have HB4S:=Aside0.mk hq1;have HT4:=Aside0.mk hq2;have HOKE:=Aside0.mk hq3;have HKB4:=Aside0.mk hq4;have HHAT:=Aside0.mk hq5
   have HLP:=Aside0.mk (show TLoop B b v4 w4 (fun k_=>((ok k_∧k_<W.heap.size)∨w2.heap.size≤k_)∧k_<w4.heap.size) K k (.slice Aa as_.length ca) as_ (l++Cat.word c0) m 0 w4 from
    ⟨[],m,by rw [List.append_nil];exact TS.mk0 hq1,HR4.out,HM.out,rfl⟩)
   clear hq1 hq2 hq3 hq4 hq5 HS1 HS2 HR4 HM HA HW1 HW2 HW3
   go_loopg [5,6,36] as_.length (fun gg _ _ s36 wr=>∃ j:Nat,j≤as_.length∧as_.length - j≤gg∧s36 = .int .i64 j∧Aside0 (TLoop B b v4 w4 (fun k_=>((ok k_∧k_<W.heap.size)∨w2.heap.size≤k_)∧k_<w4.heap.size) K k (.slice Aa as_.length ca) as_ (l++Cat.word c0) m j wr))
   case atStart=>exact ⟨0,Nat.zero_le _,by omega,rfl,HLP⟩
   case round=>
    obtain ⟨j,hj,hgg,rfl,HLj⟩:=hrel;by_cases hlt:j<as_.length
    ·have hltz:(j:Int)<(as_.length:Int):=by omega
     obtain ⟨m1,x,y,ada,A1,c1,h1,h2,h3,h4,h5,h6,h7,h8,h9⟩:=HLj.out.open_ hlt;subst h6;have R1:=Aside0.mk h1;have R2:=Aside0.mk h2;have R3:=Aside0.mk h3;have R4:=Aside0.mk h4;have R5:=Aside0.mk h5;have R8:=Aside0.mk h8;have R9:=Aside0.mk h9
     generalize as_[j]=a1 at h7 R3 R8 R9
     clear h1 h2 h3 h4 h5 h8 h9;by_cases hj0:j=0
     ·have hjz:(j:Int)<1:=by omega
      have HJ:=Aside0.mk hj0;clear hj0;have hsep:(wr.alloc (Obj.cells #[Value.string ⟨#[40]⟩,Value.string ⟨#[44]⟩] 9)).cell? ⟨wr.heap.size,j,none⟩=some (.string ⟨#[40]⟩):=by rw [HJ.out,Lib.cell_of_heap (heap_alloc_new wr _)];rfl
      have HL6:=Aside0.mk (show (l++Cat.word c0++m1).length + [(40:UInt8)].length≤140737488355328 by
       have h1:=HLEN.out;have h2:=congrArg List.length R5.out;simp only [List.length_append,List.length_cons,List.length_nil] at h1 h2 ⊢;omega)
      have HL7:=Aside0.mk (show (l++Cat.word c0++m1++[(40:UInt8)]).length+x.length≤140737488355328 by
       have h1:=HLEN.out;have h2:=congrArg List.length R5.out;simp only [List.length_append,List.length_cons,List.length_nil] at h1 h2 ⊢;omega)
      go_wp2_with (first
       | (go_at_call 85;(with_reducible refine ((R1.out.step (below_alloc (Below.refl _ _) _)).write _ [40] ?_ HL6.out).mono ?_);rfl;rintro e w6 ⟨rfl,hs6⟩;have HS6:=Aside0.mk hs6;clear hs6)
       | (go_at_call 60;(with_reducible refine (TS.call (r:=x) HI.out HS6.out HB4S.out HT4.out HOKE.out (Kd.F_step R9.out (fun k_ hk_ _=>R1.out.same HS6.out HOKE.out k_ hk_)) R8.out R3.out HL7.out).mono ?_);rintro e w7 ⟨rfl,hs7⟩;have HS7:=Aside0.mk hs7;clear hs7))
      go_roundg (as_.length - (j+1))
      case measure=>omega
      case rel=>exact ⟨j+1,by omega,by omega,by go_num,⟨TLoop.next R1.out R2.out HOKE.out HS7.out R4.out (by have:=R5.out;rw [if_pos HJ.out] at this;exact this)⟩⟩
     ·by_cases hj1:j=1
      ·have hjz:¬ (1:Int)<(j:Int):=by omega
       have hsep:(wr.alloc (Obj.cells #[Value.string ⟨#[40]⟩,Value.string ⟨#[44]⟩] 9)).cell? ⟨wr.heap.size,j,none⟩=some (.string ⟨#[44]⟩):=by rw [hj1,Lib.cell_of_heap (heap_alloc_new wr _)];rfl
       have HJ:=Aside0.mk hj0;clear hj0 hj1
       have HL6:=Aside0.mk (show (l++Cat.word c0++m1).length + [(44:UInt8)].length≤140737488355328 by
        have h1:=HLEN.out;have h2:=congrArg List.length R5.out;simp only [List.length_append,List.length_cons,List.length_nil] at h1 h2 ⊢;omega)
       have HL7:=Aside0.mk (show (l++Cat.word c0++m1++[(44:UInt8)]).length+x.length≤140737488355328 by
        have h1:=HLEN.out;have h2:=congrArg List.length R5.out;simp only [List.length_append,List.length_cons,List.length_nil] at h1 h2 ⊢;omega)
       go_wp2_with (first
        | (go_at_call 85;(with_reducible refine ((R1.out.step (below_alloc (Below.refl _ _) _)).write _ [44] ?_ HL6.out).mono ?_);rfl;rintro e w6 ⟨rfl,hs6⟩;have HS6:=Aside0.mk hs6;clear hs6)
        | (go_at_call 60;(with_reducible refine (TS.call (r:=x) HI.out HS6.out HB4S.out HT4.out HOKE.out (Kd.F_step R9.out (fun k_ hk_ _=>R1.out.same HS6.out HOKE.out k_ hk_)) R8.out R3.out HL7.out).mono ?_);rintro e w7 ⟨rfl,hs7⟩;have HS7:=Aside0.mk hs7;clear hs7))
       go_roundg (as_.length - (j+1))
       case measure=>omega
       case rel=>exact ⟨j+1,by omega,by omega,by go_num,⟨TLoop.next R1.out R2.out HOKE.out HS7.out R4.out qz56⟩⟩
      ·have hjz:(1:Int)<(j:Int):=by omega
       have HJ:=Aside0.mk hj0;clear hj0 hj1
       have HL6:=Aside0.mk (show (l++Cat.word c0++m1).length + [(44:UInt8)].length≤140737488355328 by
        have h1:=HLEN.out;have h2:=congrArg List.length R5.out;simp only [List.length_append,List.length_cons,List.length_nil] at h1 h2 ⊢;omega)
       have HL7:=Aside0.mk (show (l++Cat.word c0++m1++[(44:UInt8)]).length+x.length≤140737488355328 by
        have h1:=HLEN.out;have h2:=congrArg List.length R5.out;simp only [List.length_append,List.length_cons,List.length_nil] at h1 h2 ⊢;omega)
       go_wp2_with (first
        | (go_at_call 85;(with_reducible refine ((R1.out.step (below_alloc (Below.refl _ _) _)).write _ [44] ?_ HL6.out).mono ?_);rfl;rintro e w6 ⟨rfl,hs6⟩;have HS6:=Aside0.mk hs6;clear hs6)
        | (go_at_call 60;(with_reducible refine (TS.call (r:=x) HI.out HS6.out HB4S.out HT4.out HOKE.out (Kd.F_step R9.out (fun k_ hk_ _=>R1.out.same HS6.out HOKE.out k_ hk_)) R8.out R3.out HL7.out).mono ?_);rintro e w7 ⟨rfl,hs7⟩;have HS7:=Aside0.mk hs7;clear hs7))
       go_roundg (as_.length - (j+1))
       case measure=>omega
       case rel=>exact ⟨j+1,by omega,by omega,by go_num,⟨TLoop.next R1.out R2.out HOKE.out HS7.out R4.out qz56⟩⟩
    ·have hltz:¬ (j:Int)<(as_.length:Int):=by omega
     obtain ⟨m1,m2,h1,h2,h3,h4⟩:=HLj.out;rw [List.drop_eq_nil_of_le (by omega),textL] at h3;obtain rfl:=Option.some.inj h3;rw [List.append_nil] at h4;subst h4;have E1:=Aside0.mk (h1.up HKB4.out HHAT.out);obtain ⟨ad',ea,hy0,hy1,hy2⟩:=thead_cells c0 t wr (some ad) (Kd.F_now (E1.out.foot HOKB.out HF.out));injection ea with ea
     subst ea;clear h1 h2 h3;by_cases hn0:0<n
     ·have HN0:=Aside0.mk hn0
      have HL8:=Aside0.mk (show (l++Cat.word c0++m).length + [(41:UInt8)].length≤140737488355328 by
       have h1:=HLEN.out;rw [if_pos hn0] at h1;simp only [List.length_append,List.length_cons,List.length_nil] at h1 ⊢;omega)
      go_wp2_with (first
       | (go_at_call 88;(with_reducible refine (impl_TrmCell_arity.calls c0.f0 c0.f1 c0.f2 n _ HN.out).mono ?_);rintro e w8 ⟨rfl,hb8⟩;have HS8:=Aside0.mk (E1.out.step hb8);clear hb8)
       | (go_at_call 85;(with_reducible refine (HS8.out.write _ [41] ?_ HL8.out).mono ?_);rfl;rintro e w9 ⟨rfl,hs9⟩;have HS9:=Aside0.mk hs9;clear hs9))
      go_end0
      refine ⟨rfl,?_⟩;have e:=HS9.out;simp only [List.append_assoc] at e ⊢;first|exact e|(rw [if_pos HN0.out];exact e)
     ·have HN0:=Aside0.mk hn0
      go_wp2_with (first
       | (go_at_call 88;(with_reducible refine (impl_TrmCell_arity.calls c0.f0 c0.f1 c0.f2 n _ HN.out).mono ?_);rintro e w8 ⟨rfl,hb8⟩;have HS8:=Aside0.mk (E1.out.step hb8);clear hb8))
      go_end0
      refine ⟨rfl,?_⟩;have e:=HS8.out;simp only [List.append_assoc,List.append_nil] at e ⊢;first|exact e|(rw [if_neg (by have:=HN0.out;omega),List.append_nil];exact e)
  ·have t1:(c0.f0 == 1)=false:=by rw [hk];rfl
   have t2:(c0.f0 == 2)=true:=by simpa using hk
   have HK:=Aside0.mk hk;clear hk;go_enter Tryz.func60,Tryz.ntmps60
   go_wp2_with (first
    | (go_at_call 86;(with_reducible refine (itoa_calls c0.f1 hn1 hn2 B _ (HT.out.step ((below_alloc (Below.refl _ _) _).mono HBW.out))).mono ?_);rintro e w1 ⟨rfl,hb1⟩;have HS1:=Aside0.mk ((HTS0.out.step (below_alloc (Below.refl _ _) _)).step hb1);clear hb1)
    | (go_at_call 85;(with_reducible refine (HS1.out.write _ (Cat.word c0) (HW2.out HK.out) HL1.out).mono ?_);rintro e w2 ⟨rfl,hs2⟩;have HS2:=Aside0.mk hs2;clear hs2)
    | (go_at_call 87;(with_reducible refine (targs_calls w2 (fun k=>ok k∧k<W.heap.size) K c0 t (some ad) c as_ HC.out (HS2.out.foot HOKB.out HF.out) HA.out).mono ?_);rintro e w4 ⟨Aa,ca,rfl,hR4,hm4,hb4⟩;have HR4:=Aside0.mk hR4;have HB4:=Aside0.mk hb4;clear hR4 hb4))
   obtain ⟨v4,hq1,hq2,hq3,hq4,hq5⟩:=text_start HS2.out HBS.out HT.out HOK.out HB4.out;have HB4S:=Aside0.mk hq1;have HT4:=Aside0.mk hq2;have HOKE:=Aside0.mk hq3;have HKB4:=Aside0.mk hq4;have HHAT:=Aside0.mk hq5
   have HLP:=Aside0.mk (show TLoop B b v4 w4 (fun k_=>((ok k_∧k_<W.heap.size)∨w2.heap.size≤k_)∧k_<w4.heap.size) K k (.slice Aa as_.length ca) as_ (l++Cat.word c0) m 0 w4 from
    ⟨[],m,by rw [List.append_nil];exact TS.mk0 hq1,HR4.out,HM.out,rfl⟩)
   clear hq1 hq2 hq3 hq4 hq5 HS1 HS2 HR4 HM HA HW1 HW2 HW3
   go_loopg [5,6,36] as_.length (fun gg _ _ s36 wr=>∃ j:Nat,j≤as_.length∧as_.length - j≤gg∧s36 = .int .i64 j∧Aside0 (TLoop B b v4 w4 (fun k_=>((ok k_∧k_<W.heap.size)∨w2.heap.size≤k_)∧k_<w4.heap.size) K k (.slice Aa as_.length ca) as_ (l++Cat.word c0) m j wr))
   case atStart=>exact ⟨0,Nat.zero_le _,by omega,rfl,HLP⟩
   case round=>
    obtain ⟨j,hj,hgg,rfl,HLj⟩:=hrel;by_cases hlt:j<as_.length
    ·have hltz:(j:Int)<(as_.length:Int):=by omega
     obtain ⟨m1,x,y,ada,A1,c1,h1,h2,h3,h4,h5,h6,h7,h8,h9⟩:=HLj.out.open_ hlt;subst h6;have R1:=Aside0.mk h1;have R2:=Aside0.mk h2;have R3:=Aside0.mk h3;have R4:=Aside0.mk h4;have R5:=Aside0.mk h5;have R8:=Aside0.mk h8;have R9:=Aside0.mk h9
     generalize as_[j]=a1 at h7 R3 R8 R9
     clear h1 h2 h3 h4 h5 h8 h9;by_cases hj0:j=0
     ·have hjz:(j:Int)<1:=by omega
      have HJ:=Aside0.mk hj0;clear hj0;have hsep:(wr.alloc (Obj.cells #[Value.string ⟨#[40]⟩,Value.string ⟨#[44]⟩] 9)).cell? ⟨wr.heap.size,j,none⟩=some (.string ⟨#[40]⟩):=by rw [HJ.out,Lib.cell_of_heap (heap_alloc_new wr _)];rfl
      have HL6:=Aside0.mk (show (l++Cat.word c0++m1).length + [(40:UInt8)].length≤140737488355328 by
       have h1:=HLEN.out;have h2:=congrArg List.length R5.out;simp only [List.length_append,List.length_cons,List.length_nil] at h1 h2 ⊢;omega)
      have HL7:=Aside0.mk (show (l++Cat.word c0++m1++[(40:UInt8)]).length+x.length≤140737488355328 by
       have h1:=HLEN.out;have h2:=congrArg List.length R5.out;simp only [List.length_append,List.length_cons,List.length_nil] at h1 h2 ⊢;omega)
      go_wp2_with (first
       | (go_at_call 85;(with_reducible refine ((R1.out.step (below_alloc (Below.refl _ _) _)).write _ [40] ?_ HL6.out).mono ?_);rfl;rintro e w6 ⟨rfl,hs6⟩;have HS6:=Aside0.mk hs6;clear hs6)
       | (go_at_call 60;(with_reducible refine (TS.call (r:=x) HI.out HS6.out HB4S.out HT4.out HOKE.out (Kd.F_step R9.out (fun k_ hk_ _=>R1.out.same HS6.out HOKE.out k_ hk_)) R8.out R3.out HL7.out).mono ?_);rintro e w7 ⟨rfl,hs7⟩;have HS7:=Aside0.mk hs7;clear hs7))
      go_roundg (as_.length - (j+1))
      case measure=>omega
      case rel=>exact ⟨j+1,by omega,by omega,by go_num,⟨TLoop.next R1.out R2.out HOKE.out HS7.out R4.out (by have:=R5.out;rw [if_pos HJ.out] at this;exact this)⟩⟩
     ·by_cases hj1:j=1
      ·have hjz:¬ (1:Int)<(j:Int):=by omega
       have hsep:(wr.alloc (Obj.cells #[Value.string ⟨#[40]⟩,Value.string ⟨#[44]⟩] 9)).cell? ⟨wr.heap.size,j,none⟩=some (.string ⟨#[44]⟩):=by rw [hj1,Lib.cell_of_heap (heap_alloc_new wr _)];rfl
       have HJ:=Aside0.mk hj0;clear hj0 hj1
       have HL6:=Aside0.mk (show (l++Cat.word c0++m1).length + [(44:UInt8)].length≤140737488355328 by
        have h1:=HLEN.out;have h2:=congrArg List.length R5.out;simp only [List.length_append,List.length_cons,List.length_nil] at h1 h2 ⊢;omega)
       have HL7:=Aside0.mk (show (l++Cat.word c0++m1++[(44:UInt8)]).length+x.length≤140737488355328 by
        have h1:=HLEN.out;have h2:=congrArg List.length R5.out;simp only [List.length_append,List.length_cons,List.length_nil] at h1 h2 ⊢;omega)
       go_wp2_with (first
        | (go_at_call 85;(with_reducible refine ((R1.out.step (below_alloc (Below.refl _ _) _)).write _ [44] ?_ HL6.out).mono ?_);rfl;rintro e w6 ⟨rfl,hs6⟩;have HS6:=Aside0.mk hs6;clear hs6)
        | (go_at_call 60;(with_reducible refine (TS.call (r:=x) HI.out HS6.out HB4S.out HT4.out HOKE.out (Kd.F_step R9.out (fun k_ hk_ _=>R1.out.same HS6.out HOKE.out k_ hk_)) R8.out R3.out HL7.out).mono ?_);rintro e w7 ⟨rfl,hs7⟩;have HS7:=Aside0.mk hs7;clear hs7))
       go_roundg (as_.length - (j+1))
       case measure=>omega
       case rel=>exact ⟨j+1,by omega,by omega,by go_num,⟨TLoop.next R1.out R2.out HOKE.out HS7.out R4.out qz56⟩⟩
      ·have hjz:(1:Int)<(j:Int):=by omega
       have HJ:=Aside0.mk hj0;clear hj0 hj1
       have HL6:=Aside0.mk (show (l++Cat.word c0++m1).length + [(44:UInt8)].length≤140737488355328 by
        have h1:=HLEN.out;have h2:=congrArg List.length R5.out;simp only [List.length_append,List.length_cons,List.length_nil] at h1 h2 ⊢;omega)
       have HL7:=Aside0.mk (show (l++Cat.word c0++m1++[(44:UInt8)]).length+x.length≤140737488355328 by
        have h1:=HLEN.out;have h2:=congrArg List.length R5.out;simp only [List.length_append,List.length_cons,List.length_nil] at h1 h2 ⊢;omega)
       go_wp2_with (first
        | (go_at_call 85;(with_reducible refine ((R1.out.step (below_alloc (Below.refl _ _) _)).write _ [44] ?_ HL6.out).mono ?_);rfl;rintro e w6 ⟨rfl,hs6⟩;have HS6:=Aside0.mk hs6;clear hs6)
        | (go_at_call 60;(with_reducible refine (TS.call (r:=x) HI.out HS6.out HB4S.out HT4.out HOKE.out (Kd.F_step R9.out (fun k_ hk_ _=>R1.out.same HS6.out HOKE.out k_ hk_)) R8.out R3.out HL7.out).mono ?_);rintro e w7 ⟨rfl,hs7⟩;have HS7:=Aside0.mk hs7;clear hs7))
       go_roundg (as_.length - (j+1))
       case measure=>omega
       case rel=>exact ⟨j+1,by omega,by omega,by go_num,⟨TLoop.next R1.out R2.out HOKE.out HS7.out R4.out qz56⟩⟩
    ·have hltz:¬ (j:Int)<(as_.length:Int):=by omega
     obtain ⟨m1,m2,h1,h2,h3,h4⟩:=HLj.out;rw [List.drop_eq_nil_of_le (by omega),textL] at h3;obtain rfl:=Option.some.inj h3;rw [List.append_nil] at h4;subst h4;have E1:=Aside0.mk (h1.up HKB4.out HHAT.out);obtain ⟨ad',ea,hy0,hy1,hy2⟩:=thead_cells c0 t wr (some ad) (Kd.F_now (E1.out.foot HOKB.out HF.out));injection ea with ea
     subst ea;clear h1 h2 h3;by_cases hn0:0<n
     ·have HN0:=Aside0.mk hn0
      have HL8:=Aside0.mk (show (l++Cat.word c0++m).length + [(41:UInt8)].length≤140737488355328 by
       have h1:=HLEN.out;rw [if_pos hn0] at h1;simp only [List.length_append,List.length_cons,List.length_nil] at h1 ⊢;omega)
      go_wp2_with (first
       | (go_at_call 88;(with_reducible refine (impl_TrmCell_arity.calls c0.f0 c0.f1 c0.f2 n _ HN.out).mono ?_);rintro e w8 ⟨rfl,hb8⟩;have HS8:=Aside0.mk (E1.out.step hb8);clear hb8)
       | (go_at_call 85;(with_reducible refine (HS8.out.write _ [41] ?_ HL8.out).mono ?_);rfl;rintro e w9 ⟨rfl,hs9⟩;have HS9:=Aside0.mk hs9;clear hs9))
      go_end0
      refine ⟨rfl,?_⟩;have e:=HS9.out;simp only [List.append_assoc] at e ⊢;first|exact e|(rw [if_pos HN0.out];exact e)
     ·have HN0:=Aside0.mk hn0
      go_wp2_with (first
       | (go_at_call 88;(with_reducible refine (impl_TrmCell_arity.calls c0.f0 c0.f1 c0.f2 n _ HN.out).mono ?_);rintro e w8 ⟨rfl,hb8⟩;have HS8:=Aside0.mk (E1.out.step hb8);clear hb8))
      go_end0
      refine ⟨rfl,?_⟩;have e:=HS8.out;simp only [List.append_assoc,List.append_nil] at e ⊢;first|exact e|(rw [if_neg (by have:=HN0.out;omega),List.append_nil];exact e)
  ·have t1:(c0.f0 == 1)=false:=by rw [hk];rfl
   have t2:(c0.f0 == 2)=false:=by rw [hk];rfl
   have t3:(c0.f0 == 3)=true:=by simpa using hk
   have HK:=Aside0.mk hk;clear hk;go_enter Tryz.func60,Tryz.ntmps60
   go_wp2_with (first
    | (go_at_call 85;(with_reducible refine ((HTS0.out.step (below_alloc (Below.refl _ _) _)).write _ (Cat.word c0) (HW3.out HK.out) HL1.out).mono ?_);rintro e w2 ⟨rfl,hs2⟩;have HS2:=Aside0.mk hs2;clear hs2)
    | (go_at_call 87;(with_reducible refine (targs_calls w2 (fun k=>ok k∧k<W.heap.size) K c0 t (some ad) c as_ HC.out (HS2.out.foot HOKB.out HF.out) HA.out).mono ?_);rintro e w4 ⟨Aa,ca,rfl,hR4,hm4,hb4⟩;have HR4:=Aside0.mk hR4;have HB4:=Aside0.mk hb4;clear hR4 hb4))
   obtain ⟨v4,hq1,hq2,hq3,hq4,hq5⟩:=text_start HS2.out HBS.out HT.out HOK.out HB4.out;have HB4S:=Aside0.mk hq1;have HT4:=Aside0.mk hq2;have HOKE:=Aside0.mk hq3;have HKB4:=Aside0.mk hq4;have HHAT:=Aside0.mk hq5
   have HLP:=Aside0.mk (show TLoop B b v4 w4 (fun k_=>((ok k_∧k_<W.heap.size)∨w2.heap.size≤k_)∧k_<w4.heap.size) K k (.slice Aa as_.length ca) as_ (l++Cat.word c0) m 0 w4 from
    ⟨[],m,by rw [List.append_nil];exact TS.mk0 hq1,HR4.out,HM.out,rfl⟩)
   clear hq1 hq2 hq3 hq4 hq5 HS2 HR4 HM HA HW1 HW2 HW3
   go_loopg [5,6,36] as_.length (fun gg _ _ s36 wr=>∃ j:Nat,j≤as_.length∧as_.length - j≤gg∧s36 = .int .i64 j∧Aside0 (TLoop B b v4 w4 (fun k_=>((ok k_∧k_<W.heap.size)∨w2.heap.size≤k_)∧k_<w4.heap.size) K k (.slice Aa as_.length ca) as_ (l++Cat.word c0) m j wr))
   case atStart=>exact ⟨0,Nat.zero_le _,by omega,rfl,HLP⟩
   case round=>
    obtain ⟨j,hj,hgg,rfl,HLj⟩:=hrel;by_cases hlt:j<as_.length
    ·have hltz:(j:Int)<(as_.length:Int):=by omega
     obtain ⟨m1,x,y,ada,A1,c1,h1,h2,h3,h4,h5,h6,h7,h8,h9⟩:=HLj.out.open_ hlt;subst h6;have R1:=Aside0.mk h1;have R2:=Aside0.mk h2;have R3:=Aside0.mk h3;have R4:=Aside0.mk h4;have R5:=Aside0.mk h5;have R8:=Aside0.mk h8;have R9:=Aside0.mk h9
     generalize as_[j]=a1 at h7 R3 R8 R9
     clear h1 h2 h3 h4 h5 h8 h9;by_cases hj0:j=0
     ·have hjz:(j:Int)<1:=by omega
      have HJ:=Aside0.mk hj0;clear hj0;have hsep:(wr.alloc (Obj.cells #[Value.string ⟨#[40]⟩,Value.string ⟨#[44]⟩] 9)).cell? ⟨wr.heap.size,j,none⟩=some (.string ⟨#[40]⟩):=by rw [HJ.out,Lib.cell_of_heap (heap_alloc_new wr _)];rfl
      have HL6:=Aside0.mk (show (l++Cat.word c0++m1).length + [(40:UInt8)].length≤140737488355328 by
       have h1:=HLEN.out;have h2:=congrArg List.length R5.out;simp only [List.length_append,List.length_cons,List.length_nil] at h1 h2 ⊢;omega)
      have HL7:=Aside0.mk (show (l++Cat.word c0++m1++[(40:UInt8)]).length+x.length≤140737488355328 by
       have h1:=HLEN.out;have h2:=congrArg List.length R5.out;simp only [List.length_append,List.length_cons,List.length_nil] at h1 h2 ⊢;omega)
      go_wp2_with (first
       | (go_at_call 85;(with_reducible refine ((R1.out.step (below_alloc (Below.refl _ _) _)).write _ [40] ?_ HL6.out).mono ?_);rfl;rintro e w6 ⟨rfl,hs6⟩;have HS6:=Aside0.mk hs6;clear hs6)
       | (go_at_call 60;(with_reducible refine (TS.call (r:=x) HI.out HS6.out HB4S.out HT4.out HOKE.out (Kd.F_step R9.out (fun k_ hk_ _=>R1.out.same HS6.out HOKE.out k_ hk_)) R8.out R3.out HL7.out).mono ?_);rintro e w7 ⟨rfl,hs7⟩;have HS7:=Aside0.mk hs7;clear hs7))
      go_roundg (as_.length - (j+1))
      case measure=>omega
      case rel=>exact ⟨j+1,by omega,by omega,by go_num,⟨TLoop.next R1.out R2.out HOKE.out HS7.out R4.out (by have:=R5.out;rw [if_pos HJ.out] at this;exact this)⟩⟩
     ·by_cases hj1:j=1
      ·have hjz:¬ (1:Int)<(j:Int):=by omega
       have hsep:(wr.alloc (Obj.cells #[Value.string ⟨#[40]⟩,Value.string ⟨#[44]⟩] 9)).cell? ⟨wr.heap.size,j,none⟩=some (.string ⟨#[44]⟩):=by rw [hj1,Lib.cell_of_heap (heap_alloc_new wr _)];rfl
       have HJ:=Aside0.mk hj0;clear hj0 hj1
       have HL6:=Aside0.mk (show (l++Cat.word c0++m1).length + [(44:UInt8)].length≤140737488355328 by
        have h1:=HLEN.out;have h2:=congrArg List.length R5.out;simp only [List.length_append,List.length_cons,List.length_nil] at h1 h2 ⊢;omega)
       have HL7:=Aside0.mk (show (l++Cat.word c0++m1++[(44:UInt8)]).length+x.length≤140737488355328 by
        have h1:=HLEN.out;have h2:=congrArg List.length R5.out;simp only [List.length_append,List.length_cons,List.length_nil] at h1 h2 ⊢;omega)
       go_wp2_with (first
        | (go_at_call 85;(with_reducible refine ((R1.out.step (below_alloc (Below.refl _ _) _)).write _ [44] ?_ HL6.out).mono ?_);rfl;rintro e w6 ⟨rfl,hs6⟩;have HS6:=Aside0.mk hs6;clear hs6)
        | (go_at_call 60;(with_reducible refine (TS.call (r:=x) HI.out HS6.out HB4S.out HT4.out HOKE.out (Kd.F_step R9.out (fun k_ hk_ _=>R1.out.same HS6.out HOKE.out k_ hk_)) R8.out R3.out HL7.out).mono ?_);rintro e w7 ⟨rfl,hs7⟩;have HS7:=Aside0.mk hs7;clear hs7))
       go_roundg (as_.length - (j+1))
       case measure=>omega
       case rel=>exact ⟨j+1,by omega,by omega,by go_num,⟨TLoop.next R1.out R2.out HOKE.out HS7.out R4.out qz56⟩⟩
      ·have hjz:(1:Int)<(j:Int):=by omega
       have HJ:=Aside0.mk hj0;clear hj0 hj1
       have HL6:=Aside0.mk (show (l++Cat.word c0++m1).length + [(44:UInt8)].length≤140737488355328 by
        have h1:=HLEN.out;have h2:=congrArg List.length R5.out;simp only [List.length_append,List.length_cons,List.length_nil] at h1 h2 ⊢;omega)
       have HL7:=Aside0.mk (show (l++Cat.word c0++m1++[(44:UInt8)]).length+x.length≤140737488355328 by
        have h1:=HLEN.out;have h2:=congrArg List.length R5.out;simp only [List.length_append,List.length_cons,List.length_nil] at h1 h2 ⊢;omega)
       go_wp2_with (first
        | (go_at_call 85;(with_reducible refine ((R1.out.step (below_alloc (Below.refl _ _) _)).write _ [44] ?_ HL6.out).mono ?_);rfl;rintro e w6 ⟨rfl,hs6⟩;have HS6:=Aside0.mk hs6;clear hs6)
        | (go_at_call 60;(with_reducible refine (TS.call (r:=x) HI.out HS6.out HB4S.out HT4.out HOKE.out (Kd.F_step R9.out (fun k_ hk_ _=>R1.out.same HS6.out HOKE.out k_ hk_)) R8.out R3.out HL7.out).mono ?_);rintro e w7 ⟨rfl,hs7⟩;have HS7:=Aside0.mk hs7;clear hs7))
       go_roundg (as_.length - (j+1))
       case measure=>omega
       case rel=>exact ⟨j+1,by omega,by omega,by go_num,⟨TLoop.next R1.out R2.out HOKE.out HS7.out R4.out qz56⟩⟩
    ·have hltz:¬ (j:Int)<(as_.length:Int):=by omega
     obtain ⟨m1,m2,h1,h2,h3,h4⟩:=HLj.out;rw [List.drop_eq_nil_of_le (by omega),textL] at h3;obtain rfl:=Option.some.inj h3;rw [List.append_nil] at h4;subst h4;have E1:=Aside0.mk (h1.up HKB4.out HHAT.out);obtain ⟨ad',ea,hy0,hy1,hy2⟩:=thead_cells c0 t wr (some ad) (Kd.F_now (E1.out.foot HOKB.out HF.out));injection ea with ea
     subst ea;clear h1 h2 h3;by_cases hn0:0<n
     ·have HN0:=Aside0.mk hn0
      have HL8:=Aside0.mk (show (l++Cat.word c0++m).length + [(41:UInt8)].length≤140737488355328 by
       have h1:=HLEN.out;rw [if_pos hn0] at h1;simp only [List.length_append,List.length_cons,List.length_nil] at h1 ⊢;omega)
      go_wp2_with (first
       | (go_at_call 88;(with_reducible refine (impl_TrmCell_arity.calls c0.f0 c0.f1 c0.f2 n _ HN.out).mono ?_);rintro e w8 ⟨rfl,hb8⟩;have HS8:=Aside0.mk (E1.out.step hb8);clear hb8)
       | (go_at_call 85;(with_reducible refine (HS8.out.write _ [41] ?_ HL8.out).mono ?_);rfl;rintro e w9 ⟨rfl,hs9⟩;have HS9:=Aside0.mk hs9;clear hs9))
      go_end0
      refine ⟨rfl,?_⟩;have e:=HS9.out;simp only [List.append_assoc] at e ⊢;first|exact e|(rw [if_pos HN0.out];exact e)
     ·have HN0:=Aside0.mk hn0
      go_wp2_with (first
       | (go_at_call 88;(with_reducible refine (impl_TrmCell_arity.calls c0.f0 c0.f1 c0.f2 n _ HN.out).mono ?_);rintro e w8 ⟨rfl,hb8⟩;have HS8:=Aside0.mk (E1.out.step hb8);clear hb8))
      go_end0
      refine ⟨rfl,?_⟩;have e:=HS8.out;simp only [List.append_assoc,List.append_nil] at e ⊢;first|exact e|(rw [if_neg (by have:=HN0.out;omega),List.append_nil];exact e)

/-! ### impl_TrmText: function 35 -/
def impl_TrmText.f (k:Nat) (l0:List (S63)):Option ByteArray:=if Cat.isTerm l0=true then (textF k k l0).bind fun m=>if m.length≤1000000000 then some (⟨m.toArray⟩:ByteArray) else none else some (⟨#[]⟩:ByteArray)
theorem BS.fresh (w:World):BS w.heap.size w.heap.size (.slice none 0 0) [] (w.alloc (.cells #[.pointer none,.slice none 0 0] 84)):=
 ⟨_,.inl rfl,Nat.le_refl _,heap_alloc_new w _,World.ownsRowF_nil _ _ _ _,by simp [Value.ownBlock]⟩
theorem BS.isB {B b:Nat} {v:Value} {l:List UInt8} {W:World} (h:BS B b v l W):Lib.IsBuilderF 84 5 B b (Lib.byteCells l) W:=by
 obtain ⟨p,hp,h1,h2,h3,h4⟩:=h;rw [← Lib.byteCells_length] at h3;rcases hp with rfl|rfl
 ·exact .inl ⟨h1,v,h2,h3,h4⟩
 ·exact .inr ⟨h1,v,h2,h3,h4⟩
theorem string_calls {B b:Nat} {v:Value} {l:List UInt8} {W:World} (h:BS B b v l W) :
  Calls Tryz.prog 61 #[.pointer (some ⟨b,0,none⟩)] W fun e w'=>e = .returned (.string ⟨l.toArray⟩)∧Below B W w':=
 (Tryz.Builder_String_any_k B b l W h.isB (by obtain ⟨p,_,q⟩:=h;have:=q.1;have:=q.lt;omega)).mono fun e w' ⟨h1,_,h2,_⟩=>⟨h1,h2⟩
theorem text_fresh (k:Nat) (l0:List Cat.Cell) (m:List UInt8) (A0:Option Addr) (c0:Nat) (w w1:World) (hT:TabT w) (hb:Below w.heap.size w w1) (hr0:Kd.C k63 w A0 l0.length l0) (hc0:l0.length≤c0) (hm:textF k k l0=some m) (hl:m.length≤1000000000) :
  Calls Tryz.prog 60 #[.pointer (some ⟨w1.heap.size,0,none⟩),.slice A0 l0.length c0] (w1.alloc (.cells #[.pointer none,.slice none 0 0] 84)) fun e w'=>e = .returned (.tuple #[])∧∃ v',BS w1.heap.size w1.heap.size v' m w'∧Below w1.heap.size w1 w':=by
 refine (impl_text.any k w1.heap.size w1.heap.size k l0 m [] (.slice none 0 0) (fun k_=>k_<w1.heap.size) A0 c0 _ hm (BS.fresh w1) (TabB.step (hT.below hb) (below_alloc (Below.refl _ _) _)) (fun k_ hk_=>⟨Nat.ne_of_lt hk_,by simp [Value.ownBlock]⟩) (Kd.F_alloc (Kd.C_F k63_heap (Kd.C_below hr0 hb)) _) hc0 (by simp;omega)).mono ?_;rintro e w' ⟨he,v',h1,h2,h3⟩;refine ⟨he,v',h1,(below_alloc (Below.refl _ _) _).trans (h2.below (BS.fresh w1))⟩
set_option maxHeartbeats 4000000 in
set_option maxRecDepth 100000 in
theorem impl_TrmText.calls (k:Nat) (A0:Option Addr) (c0:Nat) (l0:List (S63)) (r:ByteArray) (w:World) (hT_:TabT w) (hr0:Kd.C k63 w A0 l0.length l0) (hc0:l0.length≤c0) (h:impl_TrmText.f k l0=some r) :
  Calls Tryz.prog 35 #[.slice A0 l0.length c0] w fun e w'=>e = .returned (.string r)∧Below w.heap.size w w':=by
 unfold impl_TrmText.f at h;have HT:=Aside0.mk hT_;have HR:=Aside0.mk hr0;have HC:=Aside0.mk hc0;clear hT_ hr0 hc0;by_cases ht:Cat.isTerm l0=true
 ·rw [if_pos ht] at h
  obtain ⟨m,hm,h⟩:=Option.bind_eq_some_iff.1 h;by_cases hl:m.length≤1000000000
  case neg=>rw [if_neg hl] at h;cases h
  rw [if_pos hl] at h;obtain rfl:=Option.some.inj h;have HM:=Aside0.mk hm;have HL:=Aside0.mk hl;have HO:=Aside0.mk (show impl_TrmOk.f l0=some true by rw [show impl_TrmOk.f l0=some (Cat.isTerm l0) from rfl,ht]);clear h hm hl ht;go_enter Tryz.func35,Tryz.ntmps35
  go_wp2_with (first
   | (go_at_call 42;(with_reducible refine (impl_TrmOk.calls A0 c0 l0 true w HR.out HC.out HO.out).mono ?_);rintro e w1 ⟨rfl,hb1⟩;have HB1:=Aside0.mk hb1;clear hb1)
   | (go_at_call 60;(with_reducible refine (text_fresh k l0 m A0 c0 w w1 HT.out HB1.out HR.out HC.out HM.out HL.out).mono ?_);rintro e w2 ⟨rfl,v2,h2,hb2⟩;have HS2:=Aside0.mk h2;have HB2:=Aside0.mk (HB1.out.trans (hb2.mono HB1.out.size));clear h2 hb2)
   | (go_at_call 61;(with_reducible refine (string_calls HS2.out).mono ?_);rintro e w3 ⟨rfl,hb3⟩;have HB3:=Aside0.mk (HB2.out.trans (hb3.mono HB1.out.size));clear hb3))
  go_ret;exact ⟨rfl,HB3.out⟩
 ·rw [if_neg ht] at h
  obtain rfl:=Option.some.inj h;have HO:=Aside0.mk (show impl_TrmOk.f l0=some false by rw [show impl_TrmOk.f l0=some (Cat.isTerm l0) from rfl,Bool.eq_false_iff.2 ht]);clear h ht;go_enter Tryz.func35,Tryz.ntmps35
  go_wp2_with (go_at_call 42;(with_reducible refine (impl_TrmOk.calls A0 c0 l0 false w HR.out HC.out HO.out).mono ?_);rintro e w1 ⟨rfl,hb1⟩;have HB1:=Aside0.mk hb1;clear hb1)
  go_ret;exact ⟨rfl,HB1.out⟩

/-! ### impl_GoalText: function 13 -/
def impl_GoalText.f (k:Nat) (a0_0:Int) (l0_1:List (S63)) (l0_2:List (S63)) (l0_3:List (S63)):Option (ByteArray):=(impl_GoalOk.f a0_0 l0_1 l0_2 l0_3).bind fun t282=>(if t282=true then ((impl_TrmText.f k l0_1).bind fun t283=>((impl_TrmText.f k l0_2).bind fun t284=>(if a0_0=2 then (if t283.size+3≤9223372036854775807 then (if (t283++(⟨#[32,61,32]⟩:ByteArray)).size+t284.size≤9223372036854775807 then (some ((t283++(⟨#[32,61,32]⟩:ByteArray))++t284)) else (none)) else (none)) else (if a0_0=3 then (some (⟨#[33]⟩:ByteArray)) else (if a0_0=4 then (if t283.size+3≤9223372036854775807 then (if (t283++(⟨#[32,60,32]⟩:ByteArray)).size+t284.size≤9223372036854775807 then (some ((t283++(⟨#[32,60,32]⟩:ByteArray))++t284)) else (none)) else (none)) else (if a0_0=5 then (if t283.size+3≤9223372036854775807 then (if (t283++(⟨#[32,43,32]⟩:ByteArray)).size+t284.size≤9223372036854775807 then (if ((t283++(⟨#[32,43,32]⟩:ByteArray))++t284).size+3≤9223372036854775807 then ((impl_TrmText.f k l0_3).bind fun t285=>(if (((t283++(⟨#[32,43,32]⟩:ByteArray))++t284)++(⟨#[32,61,32]⟩:ByteArray)).size+t285.size≤9223372036854775807 then (some ((((t283++(⟨#[32,43,32]⟩:ByteArray))++t284)++(⟨#[32,61,32]⟩:ByteArray))++t285)) else (none))) else (none)) else (none)) else (none)) else (some t283))))))) else (some (⟨#[]⟩:ByteArray)))
def impl_GoalText.T3:Bool × List (List Nat × List Nat):=(true,[([],[]),([0],[0]),([1],[1]),([],[]),([3],[3]),([4,2],[4]),([2,5,0,1,2],[2]),([5,6,0,1,2,3,4,5,6],[5])])
def impl_GoalText.B3:List Nat:=[0,1,3,0,8,31,63,127]
theorem impl_GoalText.tab3:rtab .any (opsOf Tryz.f13 3)=impl_GoalText.T3:=by kernel_rfl
theorem impl_GoalText.bits3:waitsOk impl_GoalText.T3.2 impl_GoalText.B3=true:=by kernel_rfl
set_option maxHeartbeats 8000000 in
set_option maxRecDepth 100000 in
theorem impl_GoalText.calls (k:Nat) (a0_0:Int) (A0_1:Option Addr) (c0_1:Nat) (l0_1:List (S63)) (A0_2:Option Addr) (c0_2:Nat) (l0_2:List (S63)) (A0_3:Option Addr) (c0_3:Nat) (l0_3:List (S63)) (r:ByteArray) (w:World) (hT_:TabT w) (hr0_1:Kd.C k63 w A0_1 l0_1.length l0_1) (hc0_1:l0_1.length≤c0_1) (hr0_2:Kd.C k63 w A0_2 l0_2.length l0_2) (hc0_2:l0_2.length≤c0_2) (hr0_3:Kd.C k63 w A0_3 l0_3.length l0_3) (hc0_3:l0_3.length≤c0_3) (h:impl_GoalText.f k a0_0 l0_1 l0_2 l0_3=some r) :
  Calls Tryz.prog 13 #[.agg #[.int .i64 a0_0,.slice A0_1 l0_1.length c0_1,.slice A0_2 l0_2.length c0_2,.slice A0_3 l0_3.length c0_3]] w fun e w'=>e = .returned (.string r)∧Below w.heap.size w w':=by
 have HQT_:=Aside0.mk hT_;clear hT_;have hu24:=Tryz.underlying24;have HR0_1:=Aside0.mk hr0_1;have HC0_1:=Aside0.mk hc0_1;clear hr0_1 hc0_1;have HR0_2:=Aside0.mk hr0_2;have HC0_2:=Aside0.mk hc0_2;clear hr0_2 hc0_2;have HR0_3:=Aside0.mk hr0_3;have HC0_3:=Aside0.mk hc0_3;clear hr0_3 hc0_3;have HB:=Aside0.mk (Below.refl w.heap.size w);have H:((impl_GoalOk.f a0_0 l0_1 l0_2 l0_3).bind fun t282=>(if t282=true then ((impl_TrmText.f k l0_1).bind fun t283=>((impl_TrmText.f k l0_2).bind fun t284=>(if a0_0=2 then (if t283.size+3≤9223372036854775807 then (if (t283++(⟨#[32,61,32]⟩:ByteArray)).size+t284.size≤9223372036854775807 then (some ((t283++(⟨#[32,61,32]⟩:ByteArray))++t284)) else (none)) else (none)) else (if a0_0=3 then (some (⟨#[33]⟩:ByteArray)) else (if a0_0=4 then (if t283.size+3≤9223372036854775807 then (if (t283++(⟨#[32,60,32]⟩:ByteArray)).size+t284.size≤9223372036854775807 then (some ((t283++(⟨#[32,60,32]⟩:ByteArray))++t284)) else (none)) else (none)) else (if a0_0=5 then (if t283.size+3≤9223372036854775807 then (if (t283++(⟨#[32,43,32]⟩:ByteArray)).size+t284.size≤9223372036854775807 then (if ((t283++(⟨#[32,43,32]⟩:ByteArray))++t284).size+3≤9223372036854775807 then ((impl_TrmText.f k l0_3).bind fun t285=>(if (((t283++(⟨#[32,43,32]⟩:ByteArray))++t284)++(⟨#[32,61,32]⟩:ByteArray)).size+t285.size≤9223372036854775807 then (some ((((t283++(⟨#[32,43,32]⟩:ByteArray))++t284)++(⟨#[32,61,32]⟩:ByteArray))++t285)) else (none))) else (none)) else (none)) else (none)) else (some t283))))))) else (some (⟨#[]⟩:ByteArray))))=some r:=h;clear h;replace H:=Option.bind_eq_some_iff.mp H;obtain ⟨t282,A20,H⟩:=H;(try dsimp only at H);have A2:=Aside0.mk A20;clear A20;have HC3:=Aside0.mk H;clear H;go_enter Tryz.func13,Tryz.ntmps13;go_upto_if 7 with (first|((with_reducible refine gate_dst (N:=1) rfl ?_);refine box_event ?hg (N:=1) ?hd (cs:=#[.int .i64 a0_0,.slice A0_1 l0_1.length c0_1,.slice A0_2 l0_2.length c0_2,.slice A0_3 l0_3.length c0_3]) (t:=24) ?hr ?_;(case hd=>rfl);(case hg=>rfl);(case hr=>first|(go_simp;done)|(go_simp;rfl));intro gb281 hg w4 hbox hb;have n_:=as3 (below_step qz3 hb) (hbox) ((by rw [hg];exact (below_size qz3):w.heap.size≤gb281));clear HB;obtain ⟨HB,BK281,GE281⟩:=n_;clear hb hbox hg;obtain ⟨hcz5_0,hcz5_1,hcz5_2,hcz5_3,hfz5_0,hfz5_1,hfz5_2,hfz5_3⟩:=blk4 BK281.out)|(go_at_call 16;(with_reducible refine (impl_GoalOk.calls a0_0 _ _ l0_1 _ _ l0_2 _ _ l0_3 t282 _ ?side1 ?side2 ?side3 ?side4 ?side5 ?side6 A2.out).mono ?_);(case side1=>exact qz8);(case side2=>exact HC0_1.out);(case side3=>exact qz18);(case side4=>exact HC0_2.out);(case side5=>exact qz30);(case side6=>exact HC0_3.out);rintro e w6 ⟨rfl,hb⟩;have n_:=as2 (blk_below (blkp BK281.out) hb) (below_step qz21 hb);clear BK281 HB;obtain ⟨BK281,HB⟩:=n_;clear hb))
 (try simp only [Act.put,sA_,sZ_,sS_]);have H:=HC3.out;clear HC3;by_cases c7:t282=true
 ·subst c7
  have H1:((impl_TrmText.f k l0_1).bind fun t283=>((impl_TrmText.f k l0_2).bind fun t284=>(if a0_0=2 then (if t283.size+3≤9223372036854775807 then (if (t283++(⟨#[32,61,32]⟩:ByteArray)).size+t284.size≤9223372036854775807 then (some ((t283++(⟨#[32,61,32]⟩:ByteArray))++t284)) else (none)) else (none)) else (if a0_0=3 then (some (⟨#[33]⟩:ByteArray)) else (if a0_0=4 then (if t283.size+3≤9223372036854775807 then (if (t283++(⟨#[32,60,32]⟩:ByteArray)).size+t284.size≤9223372036854775807 then (some ((t283++(⟨#[32,60,32]⟩:ByteArray))++t284)) else (none)) else (none)) else (if a0_0=5 then (if t283.size+3≤9223372036854775807 then (if (t283++(⟨#[32,43,32]⟩:ByteArray)).size+t284.size≤9223372036854775807 then (if ((t283++(⟨#[32,43,32]⟩:ByteArray))++t284).size+3≤9223372036854775807 then ((impl_TrmText.f k l0_3).bind fun t285=>(if (((t283++(⟨#[32,43,32]⟩:ByteArray))++t284)++(⟨#[32,61,32]⟩:ByteArray)).size+t285.size≤9223372036854775807 then (some ((((t283++(⟨#[32,43,32]⟩:ByteArray))++t284)++(⟨#[32,61,32]⟩:ByteArray))++t285)) else (none))) else (none)) else (none)) else (none)) else (some t283)))))))=some r:=qz26;clear H;have H:=H1;clear H1;replace H:=Option.bind_eq_some_iff.mp H;obtain ⟨t283,A80,H⟩:=H;(try dsimp only at H);have A8:=Aside0.mk A80;clear A80;replace H:=Option.bind_eq_some_iff.mp H;obtain ⟨t284,A90,H⟩:=H;(try dsimp only at H);have A9:=Aside0.mk A90;clear A90;have HC10:=Aside0.mk H;clear H;(try go_wp2);have n_:=as2 (blk_drew BK281.out) (below_drew1 HB.out);clear BK281 HB;obtain ⟨BK281,HB⟩:=n_;refine start_ (n:=8) (S:=fun w'=>w'.cell? ⟨gb281,0,none⟩=some (.int .i64 a0_0)∧w'.cell? ⟨gb281,1,none⟩=some (.slice A0_1 l0_1.length c0_1)∧w'.cell? ⟨gb281,2,none⟩=some (.slice A0_2 l0_2.length c0_2)∧w'.cell? ⟨gb281,3,none⟩=some (.slice A0_3 l0_3.length c0_3)) (ds:=[]) #[false,false,false,false,false,false,false,false] (by kernel_rfl) rfl rfl ⟨(blk_cell BK281.out 0).trans rfl,(blk_cell BK281.out 1).trans rfl,(blk_cell BK281.out 2).trans rfl,(blk_cell BK281.out 3).trans rfl⟩ (fun hHeld=>?_);refine with_tabW impl_GoalText.tab3 impl_GoalText.bits3 (fun HT_ HW_=>?_)
  generalize w6.drew=w11 at BK281 HB hHeld ⊢
  refine pure_ (i:=0) (N:=some 8) (v:=?_) (a':=?_) #[true,false,false,false,false,false,false,false] rfl rfl (any_of HT_.out (by kernel_rfl)) (fun _ _ _ h=>h) (Or.inl ⟨by rfl,?_⟩) ?_ ?_;rotate_left
  ·intro w'
   go_simp;with_reducible rfl
  rotate_left
  ·simp only [Act.put,sA_,sZ_,sS_,i64_w,i32_w]
   rfl
  refine pure_ (i:=3) (N:=some 11) (v:=?_) (a':=?_) #[true,false,false,true,false,false,false,false] rfl rfl (any_of HT_.out (by kernel_rfl)) (fun _ _ _ h=>h) (Or.inl ⟨by rfl,?_⟩) ?_ ?_;rotate_left
  ·intro w'
   go_simp;with_reducible rfl
  rotate_left
  ·simp only [Act.put,sA_,sZ_,sS_,i64_w,i32_w]
   rfl
  refine take_ (i:=1) (N:=some 9) (v:=?_) (a':=?_) #[true,true,false,true,false,false,false,false] rfl rfl (take_ofW HT_.out HW_.out (by kernel_rfl)) (fun _ _ _ h=>h) (Or.inl ⟨by rfl,?_⟩) hHeld ?_ ?_;rotate_left
  ·rintro w' ⟨s0,s1,s2,s3⟩
   go_simp;with_reducible rfl
  rotate_left
  ·simp only [Act.put,sA_,sZ_,sS_,i64_w,i32_w]
   rfl
  refine take_ (i:=4) (N:=some 12) (v:=?_) (a':=?_) #[true,true,false,true,true,false,false,false] rfl rfl (take_ofW HT_.out HW_.out (by kernel_rfl)) (fun _ _ _ h=>h) (Or.inl ⟨by rfl,?_⟩) hHeld ?_ ?_;rotate_left
  ·rintro w' ⟨s0,s1,s2,s3⟩
   go_simp;with_reducible rfl
  rotate_left
  ·simp only [Act.put,sA_,sZ_,sS_,i64_w,i32_w]
   rfl
  refine one_ (i:=2) (N:=some 10) #[true,true,true,true,true,false,false,false] rfl rfl (one_of HT_.out (by kernel_rfl)) (by decide) (fun K hK=>?_);refine goes_ Tryz.func35 (by kernel_rfl) rfl #[.slice A0_1 l0_1.length c0_1] (by rfl) rfl rfl qz22 ?_;(with_reducible refine (impl_TrmText.calls (hT_:=HQT_.out.below qz21) k _ _ l0_1 t283 _ ?side1 ?side2 A8.out).mono ?_)
  (case side1=>exact qz8)
  (case side2=>exact HC0_1.out)
  rintro e w12 ⟨rfl,hb⟩;refine ⟨_,rfl,?_⟩;have n_:=as2 (blk_below (blkp BK281.out) hb) (below_step qz21 hb);clear BK281 HB;obtain ⟨BK281,HB⟩:=n_;(try clear hb);(try clear hb2);(try clear hk);(try clear hi);refine hK.out _ _ ⟨(blk_cell BK281.out 0).trans rfl,(blk_cell BK281.out 1).trans rfl,(blk_cell BK281.out 2).trans rfl,(blk_cell BK281.out 3).trans rfl⟩ (fun hHeld=>?_);clear hK K;refine norm_ (a':=?_) ?_ ?_;rotate_left
  ·show Act.put _ (some 10) _=_
   simp only [Act.put,sA_,sZ_,sS_,i64_w,i32_w];rfl
  refine one_ (i:=5) (N:=some 13) #[true,true,true,true,true,true,false,false] rfl rfl (one_of HT_.out (by kernel_rfl)) (by decide) (fun K hK=>?_);refine goes_ Tryz.func35 (by kernel_rfl) rfl #[.slice A0_2 l0_2.length c0_2] (by rfl) rfl rfl qz22 ?_;(with_reducible refine (impl_TrmText.calls (hT_:=HQT_.out.below qz21) k _ _ l0_2 t284 _ ?side1 ?side2 A9.out).mono ?_)
  (case side1=>exact qz18)
  (case side2=>exact HC0_2.out)
  rintro e w13 ⟨rfl,hb⟩;refine ⟨_,rfl,?_⟩;have n_:=as2 (blk_below (blkp BK281.out) hb) (below_step qz21 hb);clear BK281 HB;obtain ⟨BK281,HB⟩:=n_;(try clear hb);(try clear hb2);(try clear hk);(try clear hi);refine hK.out _ _ ⟨(blk_cell BK281.out 0).trans rfl,(blk_cell BK281.out 1).trans rfl,(blk_cell BK281.out 2).trans rfl,(blk_cell BK281.out 3).trans rfl⟩ (fun hHeld=>?_);clear hK K;refine norm_ (a':=?_) ?_ ?_;rotate_left
  ·show Act.put _ (some 13) _=_
   simp only [Act.put,sA_,sZ_,sS_,i64_w,i32_w];rfl
  refine pure_ (i:=6) (N:=some 3) (v:=?_) (a':=?_) #[true,true,true,true,true,true,true,false] rfl rfl (any_of HT_.out (by kernel_rfl)) (fun _ _ _ h=>h) (Or.inl ⟨by rfl,?_⟩) ?_ ?_;rotate_left
  ·intro w'
   go_simp;with_reducible rfl
  rotate_left
  ·simp only [Act.put,sA_,sZ_,sS_,i64_w,i32_w]
   rfl
  refine pure_ (i:=7) (N:=some 4) (v:=?_) (a':=?_) #[true,true,true,true,true,true,true,true] rfl rfl (any_of HT_.out (by kernel_rfl)) (fun _ _ _ h=>h) (Or.inl ⟨by rfl,?_⟩) ?_ ?_;rotate_left
  ·intro w'
   go_simp;with_reducible rfl
  rotate_left
  ·simp only [Act.put,sA_,sZ_,sS_,i64_w,i32_w]
   rfl
  refine done_ (done_of HT_.out (by kernel_rfl)) ?_;obtain ⟨hcz14_0,hcz14_1,hcz14_2,hcz14_3,hfz14_0,hfz14_1,hfz14_2,hfz14_3⟩:=blk4 BK281.out;go_upto_if 16 with (fail)
  have H:=HC10.out;clear HC10;by_cases c15:a0_0=2
  ·rw [if_pos c15] at H
   have c15b0:(a0_0 == 2)=true:=beq_iff_eq.mpr c15;have c15b1:(a0_0 != 2)=false:=bne_eq_false_iff_eq.mpr c15;clear c15;(first|rw [c15b0]|rw [c15b1]|(simp only [i64_w,i32_w];rw [c15b0])|skip);by_cases c16:t283.size+3≤9223372036854775807
   ·rw [if_pos c16] at H
    have c16b0:=eq_true c16;have c16b1:decide (t283.size+3≤9223372036854775807)=true:=decide_eq_true c16;(try have c16b2:(9223372036854775807<t283.size+3)=False:=eq_false (Nat.not_lt.2 c16));by_cases c17:(t283++(⟨#[32,61,32]⟩:ByteArray)).size+t284.size≤9223372036854775807
    ·rw [if_pos c17] at H
     have c17b0:=eq_true c17;have c17b1:decide ((t283++(⟨#[32,61,32]⟩:ByteArray)).size+t284.size≤9223372036854775807)=true:=decide_eq_true c17;(try (have c17b1s:=c17b1;simp only [ByteArray.size_append,(show (⟨#[32,61,32]⟩:ByteArray).size=3 from rfl)] at c17b1s));(try have c17b2:(9223372036854775807<(t283++(⟨#[32,61,32]⟩:ByteArray)).size+t284.size)=False:=eq_false (Nat.not_lt.2 c17));(try (have c17b2s:=c17b2;simp only [ByteArray.size_append,(show (⟨#[32,61,32]⟩:ByteArray).size=3 from rfl)] at c17b2s));obtain rfl:=Option.some.inj H;go_wp2;go_ret;exact ⟨qz2,qz21⟩
    ·rw [if_neg c17] at H
     exact absurd H (by simp)
   ·rw [if_neg c16] at H
    exact absurd H (by simp)
  ·rw [if_neg c15] at H
   have c15b0:(a0_0 == 2)=false:=beq_eq_false_iff_ne.mpr c15;have c15b1:(a0_0 != 2)=true:=bne_iff_ne.mpr c15;(first|rw [c15b0]|rw [c15b1]|(simp only [i64_w,i32_w];rw [c15b0])|skip);by_cases c18:a0_0=3
   ·rw [if_pos c18] at H
    have c18b0:(a0_0 == 3)=true:=beq_iff_eq.mpr c18;have c18b1:(a0_0 != 3)=false:=bne_eq_false_iff_eq.mpr c18;clear c18;obtain rfl:=Option.some.inj H;go_wp2;go_ret;exact ⟨qz2,qz21⟩
   ·rw [if_neg c18] at H
    have c18b0:(a0_0 == 3)=false:=beq_eq_false_iff_ne.mpr c18;have c18b1:(a0_0 != 3)=true:=bne_iff_ne.mpr c18;by_cases c19:a0_0=4
    ·rw [if_pos c19] at H
     have c19b0:(a0_0 == 4)=true:=beq_iff_eq.mpr c19;have c19b1:(a0_0 != 4)=false:=bne_eq_false_iff_eq.mpr c19;clear c19;by_cases c20:t283.size+3≤9223372036854775807
     ·rw [if_pos c20] at H
      have c20b0:=eq_true c20;have c20b1:decide (t283.size+3≤9223372036854775807)=true:=decide_eq_true c20;(try have c20b2:(9223372036854775807<t283.size+3)=False:=eq_false (Nat.not_lt.2 c20));by_cases c21:(t283++(⟨#[32,60,32]⟩:ByteArray)).size+t284.size≤9223372036854775807
      ·rw [if_pos c21] at H
       have c21b0:=eq_true c21;have c21b1:decide ((t283++(⟨#[32,60,32]⟩:ByteArray)).size+t284.size≤9223372036854775807)=true:=decide_eq_true c21;(try (have c21b1s:=c21b1;simp only [ByteArray.size_append,(show (⟨#[32,60,32]⟩:ByteArray).size=3 from rfl)] at c21b1s));(try have c21b2:(9223372036854775807<(t283++(⟨#[32,60,32]⟩:ByteArray)).size+t284.size)=False:=eq_false (Nat.not_lt.2 c21));(try (have c21b2s:=c21b2;simp only [ByteArray.size_append,(show (⟨#[32,60,32]⟩:ByteArray).size=3 from rfl)] at c21b2s));obtain rfl:=Option.some.inj H;go_wp2;go_ret;exact ⟨qz2,qz21⟩
      ·rw [if_neg c21] at H
       exact absurd H (by simp)
     ·rw [if_neg c20] at H
      exact absurd H (by simp)
    ·rw [if_neg c19] at H
     have c19b0:(a0_0 == 4)=false:=beq_eq_false_iff_ne.mpr c19;have c19b1:(a0_0 != 4)=true:=bne_iff_ne.mpr c19;by_cases c22:a0_0=5
     ·rw [if_pos c22] at H
      have c22b0:(a0_0 == 5)=true:=beq_iff_eq.mpr c22;have c22b1:(a0_0 != 5)=false:=bne_eq_false_iff_eq.mpr c22;clear c22;by_cases c23:t283.size+3≤9223372036854775807
      ·rw [if_pos c23] at H
       have c23b0:=eq_true c23;have c23b1:decide (t283.size+3≤9223372036854775807)=true:=decide_eq_true c23;(try have c23b2:(9223372036854775807<t283.size+3)=False:=eq_false (Nat.not_lt.2 c23));by_cases c24:(t283++(⟨#[32,43,32]⟩:ByteArray)).size+t284.size≤9223372036854775807
       ·rw [if_pos c24] at H
        have c24b0:=eq_true c24;have c24b1:decide ((t283++(⟨#[32,43,32]⟩:ByteArray)).size+t284.size≤9223372036854775807)=true:=decide_eq_true c24;(try (have c24b1s:=c24b1;simp only [ByteArray.size_append,(show (⟨#[32,43,32]⟩:ByteArray).size=3 from rfl)] at c24b1s));(try have c24b2:(9223372036854775807<(t283++(⟨#[32,43,32]⟩:ByteArray)).size+t284.size)=False:=eq_false (Nat.not_lt.2 c24));(try (have c24b2s:=c24b2;simp only [ByteArray.size_append,(show (⟨#[32,43,32]⟩:ByteArray).size=3 from rfl)] at c24b2s));by_cases c25:((t283++(⟨#[32,43,32]⟩:ByteArray))++t284).size+3≤9223372036854775807
        ·rw [if_pos c25] at H
         have c25b0:=eq_true c25;have c25b1:decide (((t283++(⟨#[32,43,32]⟩:ByteArray))++t284).size+3≤9223372036854775807)=true:=decide_eq_true c25;(try (have c25b1s:=c25b1;simp only [ByteArray.size_append,(show (⟨#[32,43,32]⟩:ByteArray).size=3 from rfl)] at c25b1s));(try have c25b2:(9223372036854775807<((t283++(⟨#[32,43,32]⟩:ByteArray))++t284).size+3)=False:=eq_false (Nat.not_lt.2 c25));(try (have c25b2s:=c25b2;simp only [ByteArray.size_append,(show (⟨#[32,43,32]⟩:ByteArray).size=3 from rfl)] at c25b2s));replace H:=Option.bind_eq_some_iff.mp H;obtain ⟨t285,A260,H⟩:=H;(try dsimp only at H);have A26:=Aside0.mk A260;clear A260;by_cases c27:(((t283++(⟨#[32,43,32]⟩:ByteArray))++t284)++(⟨#[32,61,32]⟩:ByteArray)).size+t285.size≤9223372036854775807
         ·rw [if_pos c27] at H
          have c27b0:=eq_true c27;have c27b1:decide ((((t283++(⟨#[32,43,32]⟩:ByteArray))++t284)++(⟨#[32,61,32]⟩:ByteArray)).size+t285.size≤9223372036854775807)=true:=decide_eq_true c27;(try (have c27b1s:=c27b1;simp only [ByteArray.size_append,(show (⟨#[32,43,32]⟩:ByteArray).size=3 from rfl),(show (⟨#[32,61,32]⟩:ByteArray).size=3 from rfl)] at c27b1s));(try have c27b2:(9223372036854775807<(((t283++(⟨#[32,43,32]⟩:ByteArray))++t284)++(⟨#[32,61,32]⟩:ByteArray)).size+t285.size)=False:=eq_false (Nat.not_lt.2 c27));(try (have c27b2s:=c27b2;simp only [ByteArray.size_append,(show (⟨#[32,43,32]⟩:ByteArray).size=3 from rfl),(show (⟨#[32,61,32]⟩:ByteArray).size=3 from rfl)] at c27b2s));obtain rfl:=Option.some.inj H;obtain ⟨hcz28_0,hcz28_1,hcz28_2,hcz28_3,hfz28_0,hfz28_1,hfz28_2,hfz28_3⟩:=blk4 BK281.out
          go_wp2_with (first|(go_at_call 35;(with_reducible refine (impl_TrmText.calls (hT_:=HQT_.out.below qz21) k _ _ l0_3 t285 _ ?side1 ?side2 A26.out).mono ?_);(case side1=>exact qz30);(case side2=>exact HC0_3.out);rintro e w29 ⟨rfl,hb⟩;have n_:=as2 (blk_below (blkp BK281.out) hb) (below_step qz21 hb);clear BK281 HB;obtain ⟨BK281,HB⟩:=n_;clear hb))
          go_ret;exact ⟨qz2,qz21⟩
         ·rw [if_neg c27] at H
          exact absurd H (by simp)
        ·rw [if_neg c25] at H
         exact absurd H (by simp)
       ·rw [if_neg c24] at H
        exact absurd H (by simp)
      ·rw [if_neg c23] at H
       exact absurd H (by simp)
     ·rw [if_neg c22] at H
      have c22b0:(a0_0 == 5)=false:=beq_eq_false_iff_ne.mpr c22;have c22b1:(a0_0 != 5)=true:=bne_iff_ne.mpr c22;obtain rfl:=Option.some.inj H;go_wp2;go_ret;exact ⟨qz2,qz21⟩
 ·replace c7:=Bool.eq_false_iff.mpr c7
  subst c7;have H1:(some (⟨#[]⟩:ByteArray))=some r:=qz15;clear H;have H:=H1;clear H1;obtain rfl:=Option.some.inj H;go_wp2;go_ret;exact ⟨qz2,qz21⟩

/-! ### strings_Split: function 26 -/
/-- strings.Split at a part that is not empty: the shelf's. -/
def strings_Split.f (a0:ByteArray) (a1:ByteArray):Option (List ByteArray):=if a0.size<4294967281 then (if 1≤a1.size then some (Lib.splitB a1 0 (Lib.countB a0 a1) a0) else none) else none
theorem strings_Split.calls (a0:ByteArray) (a1:ByteArray) (r:List ByteArray) (w:World) (hM_:MaxT w) (h:strings_Split.f a0 a1=some r) :
  Calls Tryz.prog 26 #[.string a0,.string a1] w fun e w'=>∃ v0_:Value,e = .returned (v0_)∧Kd.R Kd.string 9 w' w.heap.size (fun _=>True) v0_ r∧Below w.heap.size w w':=by
 unfold strings_Split.f at h;by_cases h1:a0.size<4294967281
 case neg=>rw [if_neg h1] at h;cases h
 rw [if_pos h1] at h;by_cases h2:1≤a1.size
 case neg=>rw [if_neg h2] at h;cases h
 rw [if_pos h2] at h;obtain rfl:=Option.some.inj h;obtain ⟨m,hm⟩:=hM_;refine (Tryz.split_all a0 a1 m w h1 hm h2).mono ?_;rintro e w' ⟨rfl,rfl⟩;have hl:=Lib.splitB_all a1 h2 0 _ a0 rfl;have hc:=Lib.countB_le a1 h2 a0.size a0 (Nat.le_refl _);refine ⟨_,rfl,Kd.R_of_own ?_ (fun _ _=>trivial),below_alloc (Below.refl _ _) _⟩;rw [← hl];refine ⟨by simp [encs],.inr ⟨w.heap.size,_,_,rfl,Nat.le_refl _,heap_alloc_new w _,Nat.le_refl _,?_,by simp,?_⟩⟩
 ·rw [hl];unfold maxLen;omega
 ·simp [encs]
  exact List.take_of_length_le (by simp)

/-! ### impl_while: function 78 -/
theorem tw_dw (p:UInt8→Bool) (l:List UInt8):l.takeWhile p=l.take (l.length - (l.dropWhile p).length)∧l.dropWhile p=l.drop (l.length - (l.dropWhile p).length):=by
 have h:=List.takeWhile_append_dropWhile (p:=p) (l:=l)
 have hl:(l.takeWhile p).length=l.length - (l.dropWhile p).length:=by
  have:=congrArg List.length h;rw [List.length_append] at this;omega
 rw [← hl];have h1:=List.take_left (l₁:=l.takeWhile p) (l₂:=l.dropWhile p);have h2:=List.drop_left (l₁:=l.takeWhile p) (l₂:=l.dropWhile p);rw [h] at h1 h2;exact ⟨h1.symm,h2.symm⟩
set_option maxHeartbeats 4000000 in
set_option maxRecDepth 100000 in
/-- while: the longest beginning of bytes among some, and what is behind -/
theorem while_any (s bs:ByteArray) (p:UInt8→Bool) (hp:∀ b,bs.data.toList.contains b=p b) (hbs:bs.size<4294967281) (hascii:∀ (j:Nat) b,bs.data.toList[j]?=some b→b.toNat<128) (hs:s.size≤9223372036854775807) (W:World) :
  Calls Tryz.prog 78 #[.string s,.string bs] W fun e w'=>e = .returned (.tuple #[.string ⟨(s.data.toList.takeWhile p).toArray⟩,.string ⟨(s.data.toList.dropWhile p).toArray⟩])∧Below W.heap.size W w':=by
 have HC:=Aside0.mk (Tryz.trimLeft_set s bs W hbs hascii);have e:Lib.trimLeftS s.data.toList bs.data.toList=s.data.toList.dropWhile p:=by unfold Lib.trimLeftS;exact congrArg (fun q=>s.data.toList.dropWhile q) (funext hp)
 rw [e] at HC;obtain ⟨h1,h2⟩:=tw_dw p s.data.toList;have hle:(s.data.toList.dropWhile p).length≤s.size:=by rw [Lib.size_eq];exact (List.dropWhile_sublist _).length_le
 have hsz:=Lib.size_eq s;obtain ⟨d,hd⟩:∃ d,d=s.data.toList.dropWhile p:=⟨_,rfl⟩;rw [← hd] at h1 h2 hle HC ⊢;rw [← hsz] at h1 h2;have H1:=Aside0.mk h1;have H2:=Aside0.mk h2;clear hp hbs hascii e h1 h2 hsz hd;go_enter Tryz.func78,Tryz.ntmps78
 go_wp2_with (go_at_call 102;(with_reducible refine HC.out.mono ?_);rintro e w1 ⟨rfl,hb1⟩;have HB1:=Aside0.mk hb1;clear hb1)
 have hlei:(d.length:Int)≤(s.size:Int):=by omega
 go_quiet (fail)
 go_wp2;go_ret2;have e1:s.extract 0 (s.size - d.length)=⟨(s.data.toList.takeWhile p).toArray⟩:=Cat.ba_ext (by rw [Lib.extract_data,List.drop_zero,Nat.sub_zero,H1.out]);have e2:s.extract (s.size - d.length) s.size=⟨d.toArray⟩:=Cat.ba_ext (by rw [Lib.extract_to_end];exact H2.out.symm);exact ⟨by rw [e1,e2];rfl,pw_below_drewN HB1.out _⟩

/-! ### impl_read: function 53 -/
/-! ### Atoi, whatever it says of errors -/
def ErrV (g:Nat) (W:World):Prop:=∃ ev,W.cell? ⟨g,0,none⟩=some ev∧(ev = .nilIface∨∃ te pe,ev = .iface te pe)
def ErrT (W:World):Prop:=ErrV 3 W∧ErrV 4 W
theorem ErrV.below {g B:Nat} {W W':World} (h:ErrV g W) (hb:Below B W W') (hg:g<B):ErrV g W':=by
 obtain ⟨ev,h1,h2⟩:=h;exact ⟨ev,(hb.cell (p:=⟨g,0,none⟩) hg).trans h1,h2⟩
theorem ErrV.lt {g:Nat} {W:World} (h:ErrV g W):g<W.heap.size:=by
 obtain ⟨ev,h1,h2⟩:=h;exact World.block_lt_of_cell? W ⟨g,0,none⟩ h1
theorem ErrT.below {W W':World} (h:ErrT W) (hb:Below W.heap.size W W'):ErrT W':=⟨h.1.below hb h.1.lt,h.2.below hb h.2.lt⟩
theorem errVar {n:String} {g:Nat} {tp:TypeId} {W:World} {P:Addr→ByteArray→Prop} (hg:Tryz.prog.globalNamed n=some g) (h:∃ (a:Addr) (s:ByteArray),W.var? Tryz.prog n=some #[.iface tp (.pointer (some a))]∧P a s):ErrV g W:=by
 obtain ⟨a,s,h0,_⟩:=h;refine ⟨.iface tp (.pointer (some a)),?_,.inr ⟨_,_,rfl⟩⟩;have h1:=World.var?_cell hg h0 0
 simpa using h1
def ErrB (B:Nat) (W:World):Prop:=ErrT W∧3<B∧4<B
theorem ErrB.t {B:Nat} {W:World} (h:ErrB B W):ErrT W:=h.1
theorem ErrB.step {B:Nat} {W W':World} (h:ErrB B W) (hb:Below B W W'):ErrB B W':=⟨⟨h.1.1.below hb h.2.1,h.1.2.below hb h.2.2⟩,h.2⟩
theorem atoi_calls (s:ByteArray) (hs:s.size≤281474976710656) (W:World) (hE:ErrT W) :
  Calls Tryz.prog 79 #[.string s] W fun e w'=>∃ er,e = .returned (.tuple #[.int .i64 (Cat.num s.data.toList),er])∧Below W.heap.size W w':=by
 obtain ⟨⟨e1,h1,h2⟩,⟨e2,h3,h4⟩⟩:=hE;unfold Cat.num;cases h:Lib.atoiAll s.data.toList with
 | ok v=>
  refine (Tryz.strconv_Atoi_ok s (by omega) v h W).mono ?_;rintro e w' ⟨he,hw⟩;refine ⟨_,he,?_⟩;rcases hw with rfl|⟨t,rfl⟩
  ·exact Below.refl _ _
  ·exact Lib.bytesWorld_below _ _ _
 | «syntax»=>
  refine (Tryz.strconv_Atoi_syntax s hs h e1 W h1 h2).mono ?_;rintro e w' ⟨n,he,_,_,hb⟩;exact ⟨_,he,hb⟩
 | range=>
  refine (Tryz.strconv_Atoi_range s hs h e2 W h3 h4).mono ?_;rintro e w' ⟨n,he,_,_,hb⟩;exact ⟨_,he,hb⟩
/-! ### rows of places of the call's own -/
def Own (base:Nat) (v:Value) (o:List Cat.Cell) (W:World):Prop:=Kd.R k63 63 W base (fun _=>True) v o
theorem Own.below {base:Nat} {v:Value} {o:List Cat.Cell} {W W':World} (h:Own base v o W) (hb:Below W.heap.size W W'):Own base v o W':=Kd.R_below h hb
theorem Own.elem {base:Nat} {v:Value} {o:List Cat.Cell} {W:World} (h:Own base v o W) (i:Nat) (hi:i<o.length) :
  ∃ g cap,v = .slice (some ⟨g,0,none⟩) o.length cap∧o.length≤cap∧W.cell? ⟨g,i * 3+1,none⟩=some (.int .i64 o[i].f1)∧W.frozen? ⟨g,i * 3+1,none⟩=false∧base≤g∧
   (∀ u,Own base v (o.set i ⟨o[i].f0,u,o[i].f2⟩) (W.setCell ⟨g,i * 3+1,none⟩ (.int .i64 u))∧Below base W (W.setCell ⟨g,i * 3+1,none⟩ (.int .i64 u))):=by
 obtain ⟨g,cap,rfl,hg,_,_⟩:=Kd.R_form h (by omega);obtain ⟨c,hcl,hM,hcc,hfr⟩:=Kd.R_elem h (⟨0,0,⟨#[]⟩⟩:Cat.Cell) (i:Int) (by omega) (by omega);rw [Int.toNat_natCast] at hM hcc hfr;have eg:o.getD i ⟨0,0,⟨#[]⟩⟩=o[i]:=by simp [List.getD,hi]
 rw [eg] at hM;have hc:=k63_openM hM;subst hc;refine ⟨g,cap,rfl,(Kd.R_reads' h).2.1,hcc 1 _ rfl,hfr 1,hg,fun u=>?_⟩;have hs:=Kd.R_seg h (i:Int) (by omega) (by omega) (seg:=[.int .i64 u]) (j:=1) hcl (by rw [Int.toNat_natCast];exact hcc) (show 2≤3 from by decide) (x':=(⟨o[i].f0,u,o[i].f2⟩:Cat.Cell)) (k63_mkM _ _ _ (⟨o[i].f0,u,o[i].f2⟩:Cat.Cell)) (fun _ hk=>hk);rw [Int.toNat_natCast] at hs;exact ⟨hs.1,(Below.refl _ _).setCell hg _⟩
def digs:ByteArray:=⟨#[48,49,50,51,52,53,54,55,56,57]⟩
def numBs:ByteArray:=⟨#[45,48,49,50,51,52,53,54,55,56,57]⟩
def lets:ByteArray:=⟨#[97,98,99,100,101,102,103,104,105,106,107,108,109,110,111,112,113,114,115,116,117,118,119,120,121,122]⟩
theorem byte_all {f g:UInt8→Bool} (h:∀ n:Fin 256,f (UInt8.ofNat n.val)=g (UInt8.ofNat n.val)) (b:UInt8):f b=g b:=by
 have:=h ⟨b.toNat,b.toNat_lt⟩
 simpa using this
theorem digs_is (b:UInt8):digs.data.toList.contains b=Cat.isDig b:=byte_all (f:=fun b=>digs.data.toList.contains b) (by decide +kernel) b
theorem numBs_is (b:UInt8):numBs.data.toList.contains b=Cat.isNum b:=byte_all (f:=fun b=>numBs.data.toList.contains b) (by decide +kernel) b
theorem lets_is (b:UInt8):lets.data.toList.contains b=Cat.isLet b:=byte_all (f:=fun b=>lets.data.toList.contains b) (by decide +kernel) b
theorem while_digs (s:ByteArray) (hs:s.size≤9223372036854775807) (W:World):Calls Tryz.prog 78 #[.string s,.string ⟨#[48,49,50,51,52,53,54,55,56,57]⟩] W fun e w'=>e = .returned (.tuple #[.string ⟨(s.data.toList.takeWhile Cat.isDig).toArray⟩,.string ⟨(s.data.toList.dropWhile Cat.isDig).toArray⟩])∧Below W.heap.size W w':=
 while_any s digs Cat.isDig digs_is (by decide) (ascii_of_all (by decide)) hs W
theorem while_numBs (s:ByteArray) (hs:s.size≤9223372036854775807) (W:World):Calls Tryz.prog 78 #[.string s,.string ⟨#[45,48,49,50,51,52,53,54,55,56,57]⟩] W fun e w'=>e = .returned (.tuple #[.string ⟨(s.data.toList.takeWhile Cat.isNum).toArray⟩,.string ⟨(s.data.toList.dropWhile Cat.isNum).toArray⟩])∧Below W.heap.size W w':=
 while_any s numBs Cat.isNum numBs_is (by decide) (ascii_of_all (by decide)) hs W
theorem while_lets (s:ByteArray) (hs:s.size≤9223372036854775807) (W:World):Calls Tryz.prog 78 #[.string s,.string ⟨#[97,98,99,100,101,102,103,104,105,106,107,108,109,110,111,112,113,114,115,116,117,118,119,120,121,122]⟩] W fun e w'=>e = .returned (.tuple #[.string ⟨(s.data.toList.takeWhile Cat.isLet).toArray⟩,.string ⟨(s.data.toList.dropWhile Cat.isLet).toArray⟩])∧Below W.heap.size W w':=
 while_any s lets Cat.isLet lets_is (by decide) (ascii_of_all (by decide)) hs W
theorem byte0 (s:ByteArray) (h:0<s.size):s.data.toList.head?=some (s[0]'h):=by
 rw [List.head?_eq_getElem?];rw [Array.getElem?_toList,Array.getElem?_eq_getElem (show 0<s.data.size from h)];rfl
/-- what read leaves -/
def ReadQ (base:Nat) (W:World) (q:List Cat.Cell × List UInt8) (e:Ending) (w':World):Prop:=∃ v' r,e = .returned (.tuple #[v',.string r])∧r.data.toList=q.2∧Own base v' q.1 w'∧Below base W w'
def ReadP (base F:Nat):Prop:=∀ (o:List Cat.Cell) (s:ByteArray) (q:List Cat.Cell × List UInt8) (v:Value) (W:World),Cat.readF F o s.data.toList=some q→Own base v o W→base≤W.heap.size→ErrB base W→s.size≤1099511627776→o.length≤41→
  Calls Tryz.prog 53 #[.string s,v] W (ReadQ base W q)
theorem pre_one (l:List UInt8) (c:UInt8):Lib.hasPrefix l [c]=decide (l.head?=some c):=by
 cases l with
 | nil=>rfl
 | cons x y=>
  have e:(c == x)=decide (x=c):=by
   by_cases h:x=c
   ·subst h;simp
   ·rw [decide_eq_false h];exact beq_eq_false_iff_ne.2 (fun e=>h e.symm)
  show (c == x && _)=_
  rw [e]
  simp [List.isPrefixOf]
theorem bump_set (i:Nat) (o:List Cat.Cell) (h:i<o.length):Cat.bump i o=o.set i ⟨o[i].f0,wrap64 (o[i].f1+1),o[i].f2⟩:=by
 unfold Cat.bump
 apply List.ext_getElem?
 intro j;rw [List.getElem?_modify,List.getElem?_set];by_cases e:i=j
 ·subst e;simp [h]
 ·simp [e]
/-- read's loop over arguments -/
def RLoop (base:Nat) (W:World) (i F fuel:Nat) (q0:List Cat.Cell × List UInt8) (v:Value) (r:ByteArray) (wr:World):Prop:=
 ∃ o',Own base v o' wr∧Cat.readL (Cat.readF F) i fuel o' r.data.toList=some q0∧i<o'.length∧Below base W wr∧r.size≤1099511627776∧o'.length≤41
theorem trim_is (l:List UInt8):Lib.trimPrefix l [41]=Cat.trimC l:=by
 unfold Lib.trimPrefix Cat.trimC;rw [pre_one];by_cases h:l.head?=some 41
 ·rw [if_pos h,if_pos (decide_eq_true h)];simp
 ·rw [if_neg h,if_neg (by rw [decide_eq_false h];simp)]
set_option maxHeartbeats 16000000 in
set_option maxRecDepth 100000 in
theorem read_any (base:Nat):∀ F,ReadP base F:=by
 intro F
 induction F with
 | zero=>intro o s q v W h;cases h
 | succ F ih=>
  intro o s q v W h ho hbw hE hs hol;rw [Cat.readF] at h;obtain ⟨A,c,e⟩:=Kd.R_slice ho;subst e;have hcl:=(Kd.R_reads' ho).2.1;have HO:=Aside0.mk ho;have HE:=Aside0.mk hE;have HI:=Aside0.mk ih;have HB:=Aside0.mk hbw;have HH:=Aside0.mk h;have hs63:s.size≤9223372036854775807:=by omega
  clear ho hE ih h;by_cases he:s.toList=[]
  ·have he2:(!s.toList.isEmpty)=false:=by rw [he];rfl
   go_enter Tryz.func53,Tryz.ntmps53
   go_wp2_with (fail)
   go_ret2;have h1:=HH.out;rw [if_pos (.inl (by rw [← Lib.toList_data];exact he))] at h1;obtain rfl:=Option.some.inj h1;exact ⟨_,⟨#[]⟩,rfl,rfl,HO.out,Below.refl _ _⟩
  ·have hpos:0<s.size:=by
    rw [Lib.size_eq,← Lib.toList_data];exact List.length_pos_iff.2 he
   have hemp:s.toList.isEmpty=false:=by
    cases hq:s.toList with
    | nil=>exact absurd hq he
    | cons x y=>rfl
   have HNE:=Aside0.mk (show s.data.toList≠[] by rw [← Lib.toList_data];exact he);by_cases h40:40<o.length
   ·have h40z:(40:Int)<(o.length:Int):=by omega
    go_enter Tryz.func53,Tryz.ntmps53
    go_wp2_with (fail)
    go_ret2;have h1:=HH.out;rw [if_pos (.inr h40)] at h1;obtain rfl:=Option.some.inj h1;exact ⟨_,⟨#[]⟩,rfl,rfl,HO.out,Below.refl _ _⟩
   ·have h40z:¬ (40:Int)<(o.length:Int):=by omega
    have h1:=HH.out;rw [if_neg (fun h=>h.elim HNE.out h40)] at h1;clear HH;by_cases hX:s.data.toList.head?=some 88
    ·rw [if_pos hX] at h1
     obtain rfl:=Option.some.inj h1
     have hx:((s[0]'hpos).toNat == 88)=true:=by
      have e:=byte0 s hpos;rw [hX] at e;rw [← Option.some.inj e];rfl
     clear h1;have hl1:(s.extract 1 s.size).data.toList=s.data.toList.tail:=by rw [Lib.extract_to_end,List.drop_one]
     have hz1:(s.extract 1 s.size).size≤9223372036854775807:=by rw [Lib.size_eq,hl1,List.length_tail,← Lib.size_eq];omega
     have hw:=while_digs (s.extract 1 s.size) hz1 W;rw [hl1] at hw;obtain ⟨tw,htw⟩:∃ tw,tw=s.data.toList.tail.takeWhile Cat.isDig:=⟨_,rfl⟩
     have hzt:tw.length≤1099511627776:=by
      rw [htw];have:=(List.takeWhile_sublist (p:=Cat.isDig) (l:=s.data.toList.tail)).length_le;rw [List.length_tail,← Lib.size_eq] at this;omega
     have ha:=fun W' (hE:ErrT W')=>atoi_calls (⟨tw.toArray⟩:ByteArray) (by rw [Lib.size_eq];simp;omega) W' hE
     have etw:(⟨tw.toArray⟩:ByteArray).data.toList=tw:=by simp
     rw [etw] at ha;rw [← htw] at hw ⊢;have HW:=Aside0.mk hw;have HA:=Aside0.mk ha;clear hw ha htw hl1 hz1 etw hzt hX;go_enter Tryz.func53,Tryz.ntmps53
     go_wp2_with (first
      | (go_at_call 78;(with_reducible refine HW.out.mono ?_);rintro e w1 ⟨rfl,hb1⟩;have hz1:=hb1.size;have HB1:=Aside0.mk hb1;clear hb1)
      | (go_at_call 79;(with_reducible refine (HA.out w1 (HE.out.t.below HB1.out)).mono ?_);rintro e w2 ⟨er,rfl,hb2⟩;have hz2:=hb2.size;have HO2:=Aside0.mk ((HO.out.below HB1.out).below hb2);have HB2:=Aside0.mk (HB1.out.trans (hb2.mono HB1.out.size));clear hb2)
      | ((with_reducible refine gate_builtin (b:=.append) (xs:=#[.tmp 39,.tmp 42]) rfl ?_);at_builtin;refine Kd.R_append k63 base rfl (.tmp 39) (.tmp 42) 22 63 (.agg #[(.int .i64 0),(.int .i64 0),(.string ⟨#[]⟩)]) 32 rfl Tryz.underlying22 info63 rfl (by decide) (by omega) (.slice A o.length c) o (⟨1,Cat.num tw,⟨#[]⟩⟩:Cat.Cell) [.int .i64 1,.int .i64 (Cat.num tw),.string ⟨#[]⟩] (fun _=>True) (fun _=>False) rfl rfl ?aP (fun _ hk=>hk.elim) (fun _ _=>trivial) HO2.out (Below.refl _ _) ?aS (by omega) ?_;(case aP=>exact k63_mkM _ _ _ (⟨1,Cat.num tw,⟨#[]⟩⟩:Cat.Cell));(case aS=>have:=HB.out;omega);intro v3 w3 ho3 hb3 _ _;have HO3:=Aside0.mk ho3;have HB3:=Aside0.mk hb3;clear ho3 hb3))
     go_ret2;exact ⟨_,_,rfl,by simp,HO3.out,(HB2.out.mono HB.out).trans HB3.out⟩
    ·rw [if_neg hX] at h1
     have hx:((s[0]'hpos).toNat == 88)=false:=by
      have e:=byte0 s hpos;cases hq:((s[0]'hpos).toNat == 88) with
      | false=>rfl
      | true=>
       have h88:s[0]'hpos=88:=UInt8.toNat_inj.1 (by simpa using hq);rw [h88] at e;exact absurd e hX
     have hwl:=while_lets s hs63 W;by_cases hN:s.data.toList.takeWhile Cat.isLet≠[]
     ·rw [if_pos hN] at h1
      obtain ⟨nm,hnm⟩:∃ nm,nm=s.data.toList.takeWhile Cat.isLet:=⟨_,rfl⟩;obtain ⟨rs,hrs⟩:∃ rs,rs=s.data.toList.dropWhile Cat.isLet:=⟨_,rfl⟩
      have hzr:rs.length≤1099511627776:=by
       rw [hrs];have:=(List.dropWhile_sublist (p:=Cat.isLet) (l:=s.data.toList)).length_le;rw [← Lib.size_eq] at this;omega
      rw [← hnm,← hrs] at h1 hwl;rw [← hnm] at hN;have HH1:=Aside0.mk h1;have HWL:=Aside0.mk hwl;have HN:=Aside0.mk hN
      have hne:nm.isEmpty=false:=by
       cases hq:nm with
       | nil=>exact absurd hq hN
       | cons x y=>rfl
      have hpre:=fun W'=>Tryz.strings_HasPrefix (⟨rs.toArray⟩:ByteArray) ⟨#[40]⟩ W'
      have ep:Lib.hasPrefix (⟨rs.toArray⟩:ByteArray).data.toList (⟨#[40]⟩:ByteArray).data.toList=decide (rs.head?=some 40):=by
       exact pre_one rs 40
      rw [ep] at hpre;by_cases h3:rs.head?=some 40
      ·rw [if_pos h3] at h1
       rw [decide_eq_true h3] at hpre;have HH1:=Aside0.mk h1;have HWL:=Aside0.mk hwl;have HPRE:=Aside0.mk hpre;clear h1 hwl hX hnm hrs hN hpre ep;go_enter Tryz.func53,Tryz.ntmps53
       go_wp2_with (first
        | (go_at_call 78;(with_reducible refine HWL.out.mono ?_);rintro e w1 ⟨rfl,hb1⟩;have hz1:=hb1.size;have HB1:=Aside0.mk hb1;have HO1:=Aside0.mk (HO.out.below hb1);clear hb1)
        | (go_at_call 80;(with_reducible refine (HPRE.out w3).mono ?_);rintro e w5 ⟨rfl,rfl⟩)
        | ((with_reducible refine gate_builtin (b:=.append) (xs:=#[.tmp 54,.tmp 57]) rfl ?_);at_builtin;refine Kd.R_append k63 base rfl (.tmp 54) (.tmp 57) 22 63 (.agg #[(.int .i64 0),(.int .i64 0),(.string ⟨#[]⟩)]) 32 rfl Tryz.underlying22 info63 rfl (by decide) (by omega) (.slice A o.length c) o (⟨3,0,⟨nm.toArray⟩⟩:Cat.Cell) [.int .i64 3,.int .i64 0,.string ⟨nm.toArray⟩] (fun _=>True) (fun _=>False) rfl rfl ?aP (fun _ hk=>hk.elim) (fun _ _=>trivial) HO1.out (Below.refl _ _) ?aS (by omega) ?_;(case aP=>exact k63_mkM _ _ _ (⟨3,0,⟨nm.toArray⟩⟩:Cat.Cell));(case aS=>have:=HB.out;omega);intro v3 w3 ho3 hb3 _ _;have HO3:=Aside0.mk ho3;have HB3:=Aside0.mk hb3;clear ho3 hb3))
       obtain ⟨q0,hq0,hq1⟩:=Option.map_eq_some_iff.1 HH1.out;have HQ1:=Aside0.mk hq1
       have HLP:=Aside0.mk (show RLoop base W o.length F F q0 v3 ⟨rs.toArray⟩ _ from
        ⟨_,HO3.out,by simpa using hq0,by simp,(HB1.out.mono HB.out).trans HB3.out,by rw [Lib.size_eq];simpa using hzr,by simp;omega⟩)
       clear hq0 hq1 HH1 HWL HPRE HO3 HB1 HO1 HB3 HO h3 hne hx hz1
       go_loopg [1,11] F (fun gg s1 s11 wr=>∃ (r:ByteArray),s11 = .string r∧Aside0 (RLoop base W o.length F gg q0 s1 r wr))
       case atStart=>exact ⟨_,rfl,HLP⟩
       case round=>
        obtain ⟨r,rfl,HL⟩:=hrel;cases gk with
        | zero=>obtain ⟨o',_,h2,_⟩:=HL.out;cases h2
        | succ gk=>
         obtain ⟨o',g1,g2,g3,g4,g5,g6⟩:=HL.out;rw [Cat.readL] at g2;have hrz:r.size≤9223372036854775807:=by omega
         by_cases hend:r.data.toList=[]∨r.data.toList.head?=some 41∨40<o'.length
         ·rw [if_pos hend] at g2
          obtain rfl:=Option.some.inj g2;have G1:=Aside0.mk g1;have G4:=Aside0.mk g4;clear g1 g2 g4 g5;have htp:=fun W'=>Tryz.strings_TrimPrefix r ⟨#[41]⟩ W'
          have HTP:=Aside0.mk htp;clear htp
          have hfin:∀ (v:Value) (W':World),Own base v o' W'→Below base W W'→ReadQ base W q (.returned (.tuple #[v,.string ⟨(Lib.trimPrefix r.data.toList (⟨#[41]⟩:ByteArray).data.toList).toArray⟩])) W':=fun v W' h1 h2=>by
           have hq:=HQ1.out;subst hq;exact ⟨v,_,rfl,by rw [show (⟨#[41]⟩:ByteArray).data.toList=[41] from rfl,trim_is],h1,h2⟩
          have HFIN:=Aside0.mk hfin;clear hfin;obtain ⟨A1,c1,ev1⟩:=Kd.R_slice G1.out;subst ev1;by_cases hn1:r.data.toList=[]
          ·have hre:r.toList.isEmpty=true:=by rw [Lib.toList_data,hn1];rfl
           clear hend hn1
           go_wp2_with (go_at_call 81;(with_reducible refine (HTP.out _).mono ?_);rintro e w6 ⟨rfl,rfl⟩)
           go_ret2;exact HFIN.out _ _ G1.out G4.out
          ·have hrp:0<r.size:=by rw [Lib.size_eq];exact List.length_pos_iff.2 hn1
           have hre:r.toList.isEmpty=false:=by
            rw [Lib.toList_data];cases hq:r.data.toList with
            | nil=>exact absurd hq hn1
            | cons x y=>rfl
           by_cases h41:r.data.toList.head?=some 41
           ·have hr41i:(((r[0]'hrp).toNat:Int)=41):=by
             have e:=byte0 r hrp;rw [h41] at e;rw [← Option.some.inj e];rfl
            clear hend hn1 h41
            go_wp2_with (go_at_call 81;(with_reducible refine (HTP.out _).mono ?_);rintro e w6 ⟨rfl,rfl⟩)
            go_ret2;exact HFIN.out _ _ G1.out G4.out
           ·have h40:¬ (o'.length:Int)≤40:=by
             have:40<o'.length:=hend.elim (fun h=>absurd h hn1) (fun h=>h.elim (fun h=>absurd h h41) id);omega
            have hr41i:¬ (((r[0]'hrp).toNat:Int)=41):=by
             intro e;have e0:=byte0 r hrp;have e1:r[0]'hrp=41:=UInt8.toNat_inj.1 (by simpa using (by omega:(r[0]'hrp).toNat=41));rw [e1] at e0;exact h41 e0
            clear hend hn1 h41
            go_wp2_with (go_at_call 81;(with_reducible refine (HTP.out _).mono ?_);rintro e w6 ⟨rfl,rfl⟩)
            go_ret2;exact HFIN.out _ _ G1.out G4.out
         ·rw [if_neg hend] at g2
          obtain ⟨q1,k1,k2⟩:=Option.bind_eq_some_iff.1 g2;have hn1:r.data.toList≠[]:=fun h=>hend (.inl h)
          have hrp:0<r.size:=by rw [Lib.size_eq];exact List.length_pos_iff.2 hn1
          have hre:r.toList.isEmpty=false:=by
           rw [Lib.toList_data];cases hq:r.data.toList with
           | nil=>exact absurd hq hn1
           | cons x y=>rfl
          have hr41:((r[0]'hrp).toNat != 41)=true:=by
           have e:=byte0 r hrp;cases hq:((r[0]'hrp).toNat != 41) with
           | true=>rfl
           | false=>
            have h88:r[0]'hrp=41:=UInt8.toNat_inj.1 (by simpa using hq);rw [h88] at e;exact absurd (.inr (.inl e)) hend
          have h40:(o'.length:Int)≤40:=by have:¬ 40<o'.length:=fun h=>hend (.inr (.inr h));omega
          obtain ⟨g,cap,rfl,hcap,hcell,hfz,hg,hset⟩:=g1.elem o.length g3;have g3z:(o.length:Int)<(o'.length:Int):=by omega
          have hr41i:¬ (((r[0]'hrp).toNat:Int)=41):=by
           intro e;have:(r[0]'hrp).toNat=41:=by omega
           rw [this] at hr41;cases hr41
          have hbd:=Cat.readF_bound _ _ _ _ k1;have hl1:(r.extract 1 r.size).data.toList=r.data.toList.tail:=by rw [Lib.extract_to_end,List.drop_one]
          have hz1:(r.extract 1 r.size).size≤1099511627776:=by rw [Lib.size_eq,hl1,List.length_tail,← Lib.size_eq];omega
          obtain ⟨hs1,hs2⟩:=hset (wrap64 (o'[o.length].f1+1));rw [bump_set _ _ g3,← hl1] at k1;have HCALL:=Aside0.mk (HI.out _ _ q1 _ _ k1 hs1 (Nat.le_trans HB.out (Nat.le_trans g4.size hs2.size)) ((HE.out.step g4).step hs2) hz1 (by rw [List.length_set];exact g6));have HB6:=Aside0.mk (g4.trans hs2);have HBD:=Aside0.mk hbd;have HK2:=Aside0.mk k2;have G3:=Aside0.mk g3;have G5:=Aside0.mk (show r.data.toList.length≤1099511627776 by rw [← Lib.size_eq];exact g5);clear hend g2 g1 hr41 hset hs1 hs2 hbd k1 k2 g4 g5 g6 hn1 hl1 hz1
          go_wp2_with (go_at_call 53;(with_reducible refine HCALL.out.mono ?_);rintro e w6 ⟨v6,r6,rfl,hr6,ho6,hb6⟩;have HR6:=Aside0.mk hr6;have HO6:=Aside0.mk ho6;have HB7:=Aside0.mk (HB6.out.trans hb6);clear hr6 ho6 hb6)
          go_roundg gk
          case measure=>omega
          case rel=>
           obtain ⟨d1,d2,d3⟩:=HBD.out;rw [Cat.bump_len] at d2 d3;rw [List.length_tail] at d1;have:=G3.out;have:=G5.out;refine ⟨r6,rfl,⟨q1.1,HO6.out,by rw [HR6.out];exact HK2.out,by omega,HB7.out,by rw [Lib.size_eq,HR6.out];omega,by omega⟩⟩
      ·rw [if_neg h3] at h1
       obtain rfl:=Option.some.inj h1;rw [decide_eq_false h3] at hpre;have HWL:=Aside0.mk hwl;have HPRE:=Aside0.mk hpre;clear h1 hwl hX hnm hrs hN hpre ep h3;go_enter Tryz.func53,Tryz.ntmps53
       go_wp2_with (first
        | (go_at_call 78;(with_reducible refine HWL.out.mono ?_);rintro e w1 ⟨rfl,hb1⟩;have hz1:=hb1.size;have HB1:=Aside0.mk hb1;have HO1:=Aside0.mk (HO.out.below hb1);clear hb1)
        | (go_at_call 80;(with_reducible refine (HPRE.out w3).mono ?_);rintro e w5 ⟨rfl,rfl⟩)
        | ((with_reducible refine gate_builtin (b:=.append) (xs:=#[.tmp 54,.tmp 57]) rfl ?_);at_builtin;refine Kd.R_append k63 base rfl (.tmp 54) (.tmp 57) 22 63 (.agg #[(.int .i64 0),(.int .i64 0),(.string ⟨#[]⟩)]) 32 rfl Tryz.underlying22 info63 rfl (by decide) (by omega) (.slice A o.length c) o (⟨3,0,⟨nm.toArray⟩⟩:Cat.Cell) [.int .i64 3,.int .i64 0,.string ⟨nm.toArray⟩] (fun _=>True) (fun _=>False) rfl rfl ?aP (fun _ hk=>hk.elim) (fun _ _=>trivial) HO1.out (Below.refl _ _) ?aS (by omega) ?_;(case aP=>exact k63_mkM _ _ _ (⟨3,0,⟨nm.toArray⟩⟩:Cat.Cell));(case aS=>have:=HB.out;omega);intro v3 w3 ho3 hb3 _ _;have HO3:=Aside0.mk ho3;have HB3:=Aside0.mk hb3;clear ho3 hb3))
       go_ret2;exact ⟨_,_,rfl,by simp,HO3.out,(HB1.out.mono HB.out).trans HB3.out⟩
     ·rw [if_neg hN] at h1
      obtain rfl:=Option.some.inj h1;have hn:s.data.toList.takeWhile Cat.isLet=[]:=Classical.not_not.1 hN;rw [hn] at hwl;have hw:=while_numBs s hs63;obtain ⟨tw,htw⟩:∃ tw,tw=s.data.toList.takeWhile Cat.isNum:=⟨_,rfl⟩
      have hzt:tw.length≤1099511627776:=by
       rw [htw];have:=(List.takeWhile_sublist (p:=Cat.isNum) (l:=s.data.toList)).length_le;rw [← Lib.size_eq] at this;omega
      have ha:=fun W' (hE:ErrT W')=>atoi_calls (⟨tw.toArray⟩:ByteArray) (by rw [Lib.size_eq];simp;omega) W' hE
      have etw:(⟨tw.toArray⟩:ByteArray).data.toList=tw:=by simp
      rw [etw] at ha;rw [← htw] at hw ⊢;have HW:=Aside0.mk hw;have HWL:=Aside0.mk hwl;have HA:=Aside0.mk ha;clear hw ha htw etw hzt hX h1 hwl hn hN;go_enter Tryz.func53,Tryz.ntmps53
      go_wp2_with (first
       | (go_at_call 78;(with_reducible refine HWL.out.mono ?_);rintro e w1 ⟨rfl,hb1⟩;have hz1:=hb1.size;have HB1:=Aside0.mk hb1;have HO1:=Aside0.mk (HO.out.below hb1);clear hb1)
       | (go_at_call 78;(with_reducible refine (HW.out w1).mono ?_);rintro e w2 ⟨rfl,hb2⟩;have hz2:=hb2.size;have HO2:=Aside0.mk (HO1.out.below hb2);have HB2:=Aside0.mk (HB1.out.trans (hb2.mono HB1.out.size));clear hb2)
       | (go_at_call 79;(with_reducible refine (HA.out w2 (HE.out.t.below HB2.out)).mono ?_);rintro e w4 ⟨er,rfl,hb4⟩;have hz4:=hb4.size;have HO4:=Aside0.mk (HO2.out.below hb4);have HB4:=Aside0.mk (HB2.out.trans (hb4.mono HB2.out.size));clear hb4)
       | ((with_reducible refine gate_builtin (b:=.append) (xs:=#[.tmp 104,.tmp 107]) rfl ?_);at_builtin;refine Kd.R_append k63 base rfl (.tmp 104) (.tmp 107) 22 63 (.agg #[(.int .i64 0),(.int .i64 0),(.string ⟨#[]⟩)]) 32 rfl Tryz.underlying22 info63 rfl (by decide) (by omega) (.slice A o.length c) o (⟨2,Cat.num tw,⟨#[]⟩⟩:Cat.Cell) [.int .i64 2,.int .i64 (Cat.num tw),.string ⟨#[]⟩] (fun _=>True) (fun _=>False) rfl rfl ?aP (fun _ hk=>hk.elim) (fun _ _=>trivial) HO4.out (Below.refl _ _) ?aS (by omega) ?_;(case aP=>exact k63_mkM _ _ _ (⟨2,Cat.num tw,⟨#[]⟩⟩:Cat.Cell));(case aS=>have:=HB.out;omega);intro v3 w3 ho3 hb3 _ _;have HO3:=Aside0.mk ho3;have HB3:=Aside0.mk hb3;clear ho3 hb3))
      go_ret2;exact ⟨_,_,rfl,by simp,HO3.out,(HB4.out.mono HB.out).trans HB3.out⟩

/-! ### impl_TrmRead: function 27 -/
def impl_TrmRead.f (k:Nat) (s:ByteArray):Option (List (S63) × Bool):=if s.size≤1099511627776 then (Cat.readF (s.size+1) [] s.data.toList).bind fun q=>if s.data.toList=[] then some ([],false) else (impl_TrmText.f k q.1).bind fun t=>if t.data.toList=s.data.toList then some (q.1,true) else some ([],false) else none
theorem ErrT.b {W:World} (h:ErrT W):ErrB W.heap.size W:=⟨h,h.1.lt,h.2.lt⟩
theorem own_nil (W:World) (base:Nat):Own base (.slice none 0 0) [] W:=Kd.R_nil _ _ _ _ _
set_option maxHeartbeats 8000000 in
set_option maxRecDepth 100000 in
theorem impl_TrmRead.calls (k:Nat) (s:ByteArray) (r1:List (S63)) (r2:Bool) (w:World) (hT_:TabT w) (hE_:ErrT w) (h:impl_TrmRead.f k s=some (r1,r2)) :
  Calls Tryz.prog 27 #[.string s] w fun e w'=>∃ v0_:Value,e = .returned (.tuple #[v0_,.bool r2])∧Kd.R k63 63 w' w.heap.size (fun _=>True) v0_ r1∧Below w.heap.size w w':=by
 unfold impl_TrmRead.f at h;by_cases hs:s.size≤1099511627776
 case neg=>rw [if_neg hs] at h;cases h
 rw [if_pos hs] at h;obtain ⟨q,hq,h⟩:=Option.bind_eq_some_iff.1 h;have HR:=Aside0.mk (read_any w.heap.size (s.size+1) [] s q (.slice none 0 0) w hq (own_nil w _) (Nat.le_refl _) hE_.b hs (by simp));have HT:=Aside0.mk hT_;by_cases he:s.data.toList=[]
 ·rw [if_pos he] at h
  injection h with h
  injection h with h1 h2
  subst h1 h2;have he2:s.toList=[]:=by rw [Lib.toList_data];exact he
  have he3:(!s.toList.isEmpty)=false:=by rw [he2];rfl
  clear he hq hT_ hE_;go_enter Tryz.func27,Tryz.ntmps27
  go_wp2_with (go_at_call 53;(with_reducible refine HR.out.mono ?_);rintro e w1 ⟨v1,r,rfl,_,ho1,hb1⟩;have HB1:=Aside0.mk hb1;clear ho1 hb1)
  go_ret2;exact ⟨_,rfl,own_nil _ _,HB1.out⟩
 ·rw [if_neg he] at h
  obtain ⟨t,ht,h⟩:=Option.bind_eq_some_iff.1 h
  have he2:s.toList.isEmpty=false:=by
   rw [Lib.toList_data];cases hq:s.data.toList with
   | nil=>exact absurd hq he
   | cons x y=>rfl
  have he1:¬ s.toList=[]:=by rw [Lib.toList_data];exact he
  have HTX:=Aside0.mk ht;by_cases ht2:t.data.toList=s.data.toList
  ·rw [if_pos ht2] at h
   injection h with h
   injection h with h1 h2
   subst h1 h2;have hts:t.toList=s.toList:=by rw [Lib.toList_data,Lib.toList_data];exact ht2
   have htb:(t.toList == s.toList)=true:=by rw [hts];simp
   have htb2:(t.toList != s.toList)=false:=by rw [hts];simp
   clear he hq hT_ hE_ ht hts ht2;go_enter Tryz.func27,Tryz.ntmps27
   go_wp2_with (first
    | (go_at_call 53;(with_reducible refine HR.out.mono ?_);rintro e w1 ⟨v1,r,rfl,_,ho1,hb1⟩;obtain ⟨A1,c1,ev1⟩:=Kd.R_slice ho1;subst ev1;have HC1:=Aside0.mk (Kd.R_reads' ho1);have HO1:=Aside0.mk ho1;have HB1:=Aside0.mk hb1;clear ho1 hb1)
    | (go_at_call 35;(with_reducible refine (impl_TrmText.calls k A1 c1 q.1 t w1 (HT.out.below HB1.out) HC1.out.2.2 HC1.out.2.1 HTX.out).mono ?_);rintro e w2 ⟨rfl,hb2⟩;have HB2:=Aside0.mk hb2;clear hb2))
   go_ret2;exact ⟨_,rfl,HO1.out.below HB2.out,HB1.out.trans (HB2.out.mono HB1.out.size)⟩
  ·rw [if_neg ht2] at h
   injection h with h
   injection h with h1 h2
   subst h1 h2;have hts:¬ t.toList=s.toList:=by rw [Lib.toList_data,Lib.toList_data];exact ht2
   have htb:(t.toList == s.toList)=false:=beq_eq_false_iff_ne.2 hts;have htb2:(t.toList != s.toList)=true:=by simp [bne,htb]
   clear he hq hT_ hE_ ht hts ht2;go_enter Tryz.func27,Tryz.ntmps27
   go_wp2_with (first
    | (go_at_call 53;(with_reducible refine HR.out.mono ?_);rintro e w1 ⟨v1,r,rfl,_,ho1,hb1⟩;obtain ⟨A1,c1,ev1⟩:=Kd.R_slice ho1;subst ev1;have HC1:=Aside0.mk (Kd.R_reads' ho1);have HO1:=Aside0.mk ho1;have HB1:=Aside0.mk hb1;clear ho1 hb1)
    | (go_at_call 35;(with_reducible refine (impl_TrmText.calls k A1 c1 q.1 t w1 (HT.out.below HB1.out) HC1.out.2.2 HC1.out.2.1 HTX.out).mono ?_);rintro e w2 ⟨rfl,hb2⟩;have HB2:=Aside0.mk hb2;clear hb2))
   go_ret2;exact ⟨_,rfl,own_nil _ _,HB1.out.trans (HB2.out.mono HB1.out.size)⟩

end Go.Proofs.YtlhniagacegbeaaGreatDoor.P
