/- Contracts of functions of the program: each as a Lean function, and that its call does what that says; printed by cprint.py (this session) over print.py of the kit. Conditions: the hypotheses of each theorem. -/
import Derived.Test.YtlhniagacegbeaaGreatDoorVZ
import Derived.Test.YtlhniagacegbeaaGreatDoorP0
import Derived.Test.YtlhniagacegbeaaGreatDoorP2
namespace Go.Proofs.YtlhniagacegbeaaGreatDoor.P
open Go.RowKit Go.Proofs.YtlhniagacegbeaaGreatDoorW.PrintWords Go.Proofs.YtlhniagacegbeaaGreatDoorW.PrintLast Go.Proofs.YtlhniagacegbeaaGreatDoorW.PrintMore
attribute [local go_sem] max2_int min2_int max_two min_two max_three min_three max_four min_four   -- for this text's walks alone
set_option linter.unusedVariables false
set_option linter.unusedSimpArgs false

/-! ### spec_TrmMake: function 82 -/
def spec_TrmMake.l0:Nat→List (List (S63))→List (S63)→Int→Option ((List (S63)))
 | 0,_,_,_=>none
 | k+1,x1,x5,x6=>if x6<(x1.length:Int) then (if 0≤x6 then ((spec_TrmOk.f k (rd_L4 x1 x6)).bind fun t325=>(if t325=true then (if x5.length+(rd_L4 x1 x6).length<4398046511104 then (spec_TrmMake.l0 k x1 (x5++(rd_L4 x1 x6)) (wrap64 (x6+1))) else (none)) else (some (([]:List (S63)))))) else (none)) else ((spec_TrmOk.f k x5).bind fun t333=>(if t333=true then (some x5) else (some (([]:List (S63))))))
def spec_TrmMake.f (k:Nat) (a0:ByteArray) (l1:List (List (S63))):Option ((List (S63))):=spec_TrmMake.l0 k l1 (([(⟨3,(l1.length:Int),a0⟩:S63)]:List (S63))) 0
set_option maxHeartbeats 8000000 in
set_option maxRecDepth 100000 in
theorem spec_TrmMake.calls (k:Nat) (a0:ByteArray) (A1:Option Addr) (c1:Nat) (l1:List (List (S63))) (r:List (S63)) (w:World) (hr1:Kd.C (Kd.slice 63 k63) w A1 l1.length l1) (hc1:l1.length≤c1) (h:spec_TrmMake.f k a0 l1=some r) :
  Calls Tryz.prog 82 #[.string a0,.slice A1 l1.length c1] w fun e w'=>∃ v0_:Value,e = .returned (v0_)∧Kd.R k63 63 w' w.heap.size (fun _=>True) v0_ r∧Below w.heap.size w w':=by
 have hu63:=Tryz.underlying63;have HR1:=Aside0.mk hr1;have HC1:=Aside0.mk hc1;clear hr1 hc1;have HB:=Aside0.mk (Below.refl w.heap.size w);have H:(spec_TrmMake.l0 k l1 (([(⟨3,(l1.length:Int),a0⟩:S63)]:List (S63))) 0)=some r:=h;clear h;obtain ⟨y321,hy321⟩:∃ y_:List (S63),y_=(([(⟨3,(l1.length:Int),a0⟩:S63)]:List (S63))):=⟨_,rfl⟩;replace H:(spec_TrmMake.l0 k l1 y321 0)=some r:=by first|(rw [hy321];exact H)|exact H
 have Ny321:=Aside0.mk hy321;clear hy321;have H':=Aside0.mk H;clear H;go_enter Tryz.func82,Tryz.ntmps82
 go_wp2_with (first|((with_reducible refine gate_dst (N:=11) rfl ?_);refine Kd.R_lit k63 _ 63 ?hg (N:=11) ?hd (xs:=([(⟨3,(l1.length:Int),a0⟩:S63)]:List (S63))) (inner:=[.int .i64 3,.int .i64 (l1.length:Int),.string a0]) (ok:=fun _=>True) (okp:=fun _=>True) ?hr ?hp (fun _ hk=>hk) trivial (Below.refl _ _) (Nat.le_refl _) (by simp) ?_;(case hd=>rfl);(case hg=>rfl);(case hr=>first|(go_simp;done)|(go_simp;rfl));(case hp=>exact (Reps.c3 (show Kd.M k63 _ _ _ (⟨3,(l1.length:Int),a0⟩:S63) [.int .i64 3,.int .i64 (l1.length:Int),.string a0] from (k63_mkM _ _ _ (⟨3,(l1.length:Int),a0⟩:S63) )) (Reps.none _ _)));intro v322 w3 ho4 hb hg_ hnew_;clear hg_ hnew_;(first|rw [← Ny321.out] at ho4|(simp only [Int.reduceToNat] at ho4;rw [← Ny321.out] at ho4));have n_:=as2 (Kd.R_lower ho4 (below_size qz5)) (below_step qz5 hb);clear HB;obtain ⟨HO323,HB⟩:=n_;clear hb ho4))
 go_loopg [5,6] k (fun kq v5 v6 w'=>∃ (x5_1:List (S63)) (x6_1:Int),v6 = .int .i64 x6_1∧Aside0 (spec_TrmMake.l0 kq l1 x5_1 x6_1=some r)∧Aside0 (kq≤k)∧Aside0 (Kd.R k63 63 w' w.heap.size (fun _=>True) v5 x5_1)∧Aside0 (Below w.heap.size w w'))
 case atStart=>exact ⟨(y321),(0),qz12,H',⟨Nat.le_refl _⟩,⟨Kd.Rp HO323.out⟩,⟨qz8⟩⟩
 case round=>
  clear H';(try clear c1);obtain ⟨x5_1,x6_1,rfl,HA,HK1,HO_5,HB⟩:=hrel;cases gk with
  | zero=>exact absurd HA.out (by simp [spec_TrmMake.l0])
  | succ k1=>
   have H:=HA.out;clear HA;simp only [spec_TrmMake.l0] at H;by_cases c5:x6_1<(l1.length:Int)
   ·rw [if_pos c5] at H
    have c5b0:decide (x6_1<(l1.length:Int))=true:=decide_eq_true c5;clear c5;by_cases c6:0≤x6_1
    ·rw [if_pos c6] at H
     have c6b0:decide (0≤x6_1)=true:=decide_eq_true c6;clear c6;replace H:=Option.bind_eq_some_iff.mp H;obtain ⟨t325,A70,H⟩:=H;(try dsimp only at H);have A7:=Aside0.mk A70;clear A70;by_cases c8:t325=true
     ·subst c8
      have H1:(if x5_1.length+(rd_L4 l1 x6_1).length<4398046511104 then (spec_TrmMake.l0 k1 l1 (x5_1++(rd_L4 l1 x6_1)) (wrap64 (x6_1+1))) else (none))=some r:=qz37;clear H;have H:=H1;clear H1;by_cases c9:x5_1.length+(rd_L4 l1 x6_1).length<4398046511104
      ·rw [if_pos c9] at H
       have LMc9:=Aside0.mk c9;clear c9;obtain ⟨y327,hy327⟩:∃ y_:List (S63),y_=(x5_1++(rd_L4 l1 x6_1)):=⟨_,rfl⟩;replace H:(spec_TrmMake.l0 k1 l1 y327 (wrap64 (x6_1+1)))=some r:=by first|(rw [hy327];exact H)|exact H
       have Ny327:=Aside0.mk hy327;clear hy327;have H':=Aside0.mk H;clear H;have p324:0≤(x6_1:Int):=of_decide_eq_true qz7;have q324:x6_1<(l1.length:Int):=of_decide_eq_true qz7;obtain ⟨ad324,A324_0,c324_0,e324,hx324_0,hl324_0,hi324_0⟩:=at_L4 HR1.out x6_1 p324 q324;cases e324
       replace hx324_0:=(HB.out.cell (World.block_lt_of_cell? w _ hx324_0)).trans hx324_0;have HR324_0:=Aside0.mk hi324_0;have HC324_0:=Aside0.mk hl324_0;clear hi324_0 hl324_0;replace p324:=eq_true p324;replace q324:=eq_true q324
       go_wp2_with (first|(go_at_call 62;(with_reducible refine (spec_TrmOk.calls k1 _ _ (rd_L4 l1 x6_1) true _ ?side1 ?side2 A7.out).mono ?_);(case side1=>exact qz79);(case side2=>exact HC324_0.out);rintro e w10 ⟨rfl,hb⟩;have n_:=as2 (Kd.R_below (Kd.Rp HO_5.out) hb) (below_step qz5 hb);clear HO_5 HB;obtain ⟨HO_5,HB⟩:=n_;clear hb;have p326:0≤(x6_1:Int):=of_decide_eq_true qz7;have q326:x6_1<(l1.length:Int):=of_decide_eq_true qz7;obtain ⟨ad326,A326_0,c326_0,e326,hx326_0,hl326_0,hi326_0⟩:=at_L4 HR1.out x6_1 p326 q326;obtain rfl:ad324=ad326:=(by injection e326);replace hx326_0:=(HB.out.cell (World.block_lt_of_cell? w _ hx326_0)).trans hx326_0;have HR326_0:=Aside0.mk hi326_0;have HC326_0:=Aside0.mk hl326_0;clear hi326_0 hl326_0;replace p326:=eq_true p326;replace q326:=eq_true q326)|((with_reducible refine gate_builtin (b:=.append) (xs:=#[.tmp 25,.tmp 29]) rfl ?_);at_builtin;refine Kd.R_append_rows k63 (w0:=w) w.heap.size rfl (.tmp 25) (.tmp 29) 22 63 (.agg #[(.int .i64 0),(.int .i64 0),(.string ⟨#[]⟩)]) 32 rfl Tryz.underlying22 info63 rfl (by decide) (by omega) u5 x5_1 (rd_L4 l1 x6_1) _ _ _ (fun _=>True) (fun _=>False) rfl rfl ?aO ?aR (fun _ _ h=>h) (fun _ h=>h.elim) ?aF ?aB ?aS ?aL ?_;(case aR=>repeat (first|exact (Kd.C_below HR326_0.out HB.out)|(with_reducible refine Kd.C_alloc ?_ _)|(with_reducible refine Kd.C_drewN ?_ _)|(with_reducible refine Kd.C_drew ?_)));(case aB=>exact qz5);(case aF=>exact (fun _ _=>trivial));(case aO=>exact (Kd.Rp HO_5.out));(case aS=>exact (below_size qz5));(case aL=>have:=LMc9.out;omega);intro v328 w11 ho hb hg hat;rw [← Ny327.out] at ho;have n_:=as2 (hb) (ho);clear HB HO_5;obtain ⟨HB,HO329⟩:=n_;clear ho hb hg hat))
       go_roundg k1
       case measure=>have:=HK1.out;omega
       case rel=>exact ⟨(y327),(wrap64 (x6_1+1)),qz12,H',⟨by have:=HK1.out;omega⟩,⟨Kd.Rp HO329.out⟩,⟨qz8⟩⟩
      ·rw [if_neg c9] at H
       exact absurd H (by simp)
     ·replace c8:=Bool.eq_false_iff.mpr c8
      subst c8;have H1:(some (([]:List (S63))))=some r:=qz20;clear H;have H:=H1;clear H1;obtain ⟨y330,hy330⟩:∃ y_:List (S63),y_=(([]:List (S63))):=⟨_,rfl⟩;replace H:(some y330)=some r:=by first|(rw [hy330];exact H)|exact H
      have Ny330:=Aside0.mk hy330;clear hy330;obtain rfl:=Option.some.inj H;have p324:0≤(x6_1:Int):=of_decide_eq_true qz7;have q324:x6_1<(l1.length:Int):=of_decide_eq_true qz7;obtain ⟨ad324,A324_0,c324_0,e324,hx324_0,hl324_0,hi324_0⟩:=at_L4 HR1.out x6_1 p324 q324;cases e324
      replace hx324_0:=(HB.out.cell (World.block_lt_of_cell? w _ hx324_0)).trans hx324_0;have HR324_0:=Aside0.mk hi324_0;have HC324_0:=Aside0.mk hl324_0;clear hi324_0 hl324_0;replace p324:=eq_true p324;replace q324:=eq_true q324
      go_wp2_with (first|(go_at_call 62;(with_reducible refine (spec_TrmOk.calls k1 _ _ (rd_L4 l1 x6_1) false _ ?side1 ?side2 A7.out).mono ?_);(case side1=>exact qz79);(case side2=>exact HC324_0.out);rintro e w12 ⟨rfl,hb⟩;have n_:=as2 (Kd.R_below (Kd.Rp HO_5.out) hb) (below_step qz5 hb);clear HO_5 HB;obtain ⟨HO_5,HB⟩:=n_;clear hb)|((with_reducible refine gate_dst (N:=24) rfl ?_);refine Kd.R_lit k63 _ 63 ?hg (N:=24) ?hd (xs:=([]:List (S63))) (inner:=[]) (ok:=fun _=>True) (okp:=fun _=>True) ?hr ?hp (fun _ hk=>hk) trivial (Below.refl _ _) (Nat.le_refl _) (by simp) ?_;(case hd=>rfl);(case hg=>rfl);(case hr=>first|(go_simp;done)|(go_simp;rfl));(case hp=>exact (Reps.none _ _));intro v331 w13 ho14 hb hg_ hnew_;clear hg_ hnew_;(first|rw [← Ny330.out] at ho14|(simp only [Int.reduceToNat] at ho14;rw [← Ny330.out] at ho14));have n_:=as3 (Kd.R_elder' (Kd.Rp HO_5.out) (Kd.R_base ho14) hb) (Kd.R_lower (Kd.R_new' ho14 (Kd.R_lt (Kd.Rp HO_5.out))) (below_size qz5)) (below_step qz5 hb);clear HO_5 HB;obtain ⟨HO_5,HO332,HB⟩:=n_;clear hb ho14))
      go_ret;exact ⟨_,qz4,by (with_reducible repeat (first|apply Kd.R_alloc|apply Kd.R_drewN|apply Kd.R_drew));exact Kd.R_mono HO332.out (fun _ hk=>trivial),qz8⟩
    ·rw [if_neg c6] at H
     exact absurd H (by simp)
   ·rw [if_neg c5] at H
    have c5b0:decide (x6_1<(l1.length:Int))=false:=decide_eq_false c5;clear c5;replace H:=Option.bind_eq_some_iff.mp H;obtain ⟨t333,A150,H⟩:=H;(try dsimp only at H);have A15:=Aside0.mk A150;clear A150;by_cases c16:t333=true
    ·subst c16
     have H1:(some x5_1)=some r:=qz37;clear H;have H:=H1;clear H1;obtain rfl:=Option.some.inj H;obtain ⟨Ao17,co17,eo17⟩:=Kd.R_slice HO_5.out;subst eo17
     go_wp2_with (first|(go_at_call 62;(with_reducible refine (spec_TrmOk.calls k1 _ _ x5_1 true _ ?side1 ?side2 A15.out).mono ?_);(case side1=>exact qz82);(case side2=>exact (Kd.R_reads' HO_5.out).2.1);rintro e w18 ⟨rfl,hb⟩;have n_:=as2 (Kd.R_below (Kd.Rp HO_5.out) hb) (below_step qz5 hb);clear HO_5 HB;obtain ⟨HO_5,HB⟩:=n_;clear hb))
     go_ret;exact ⟨_,qz4,by (with_reducible repeat (first|apply Kd.R_alloc|apply Kd.R_drewN|apply Kd.R_drew));exact HO_5.out,qz8⟩
    ·replace c16:=Bool.eq_false_iff.mpr c16
     subst c16;have H1:(some (([]:List (S63))))=some r:=qz20;clear H;have H:=H1;clear H1;obtain ⟨y334,hy334⟩:∃ y_:List (S63),y_=(([]:List (S63))):=⟨_,rfl⟩;replace H:(some y334)=some r:=by first|(rw [hy334];exact H)|exact H
     have Ny334:=Aside0.mk hy334;clear hy334;obtain rfl:=Option.some.inj H;obtain ⟨Ao19,co19,eo19⟩:=Kd.R_slice HO_5.out;subst eo19
     go_wp2_with (first|(go_at_call 62;(with_reducible refine (spec_TrmOk.calls k1 _ _ x5_1 false _ ?side1 ?side2 A15.out).mono ?_);(case side1=>exact qz82);(case side2=>exact (Kd.R_reads' HO_5.out).2.1);rintro e w20 ⟨rfl,hb⟩;have n_:=as2 (Kd.R_below (Kd.Rp HO_5.out) hb) (below_step qz5 hb);clear HO_5 HB;obtain ⟨HO_5,HB⟩:=n_;clear hb)|((with_reducible refine gate_dst (N:=34) rfl ?_);refine Kd.R_lit k63 _ 63 ?hg (N:=34) ?hd (xs:=([]:List (S63))) (inner:=[]) (ok:=fun _=>True) (okp:=fun _=>True) ?hr ?hp (fun _ hk=>hk) trivial (Below.refl _ _) (Nat.le_refl _) (by simp) ?_;(case hd=>rfl);(case hg=>rfl);(case hr=>first|(go_simp;done)|(go_simp;rfl));(case hp=>exact (Reps.none _ _));intro v335 w21 ho22 hb hg_ hnew_;clear hg_ hnew_;(first|rw [← Ny334.out] at ho22|(simp only [Int.reduceToNat] at ho22;rw [← Ny334.out] at ho22));have n_:=as3 (Kd.R_elder' (Kd.Rp HO_5.out) (Kd.R_base ho22) hb) (Kd.R_lower (Kd.R_new' ho22 (Kd.R_lt (Kd.Rp HO_5.out))) (below_size qz5)) (below_step qz5 hb);clear HO_5 HB;obtain ⟨HO_5,HO336,HB⟩:=n_;clear hb ho22))
     go_ret;exact ⟨_,qz4,by (with_reducible repeat (first|apply Kd.R_alloc|apply Kd.R_drewN|apply Kd.R_drew));exact Kd.R_mono HO336.out (fun _ hk=>trivial),qz8⟩

/-! ### spec_GoalText: function 14 -/
def spec_GoalText.f (k:Nat) (a0_0:Int) (l0_1:List (S63)) (l0_2:List (S63)) (l0_3:List (S63)):Option (ByteArray):=(spec_GoalOk.f k a0_0 l0_1 l0_2 l0_3).bind fun t492=>(if t492=true then (if a0_0=2 then ((spec_TrmText.f k l0_1).bind fun t493=>(if t493.size+3≤9223372036854775807 then ((spec_TrmText.f k l0_2).bind fun t494=>(if (t493++(⟨#[32,61,32]⟩:ByteArray)).size+t494.size≤9223372036854775807 then (some ((t493++(⟨#[32,61,32]⟩:ByteArray))++t494)) else (none))) else (none))) else (if a0_0=3 then (some (⟨#[33]⟩:ByteArray)) else (if a0_0=4 then ((spec_TrmText.f k l0_1).bind fun t495=>(if t495.size+3≤9223372036854775807 then ((spec_TrmText.f k l0_2).bind fun t496=>(if (t495++(⟨#[32,60,32]⟩:ByteArray)).size+t496.size≤9223372036854775807 then (some ((t495++(⟨#[32,60,32]⟩:ByteArray))++t496)) else (none))) else (none))) else (if a0_0=5 then ((spec_TrmText.f k l0_1).bind fun t497=>(if t497.size+3≤9223372036854775807 then ((spec_TrmText.f k l0_2).bind fun t498=>(if (t497++(⟨#[32,43,32]⟩:ByteArray)).size+t498.size≤9223372036854775807 then (if ((t497++(⟨#[32,43,32]⟩:ByteArray))++t498).size+3≤9223372036854775807 then ((spec_TrmText.f k l0_3).bind fun t499=>(if (((t497++(⟨#[32,43,32]⟩:ByteArray))++t498)++(⟨#[32,61,32]⟩:ByteArray)).size+t499.size≤9223372036854775807 then (some ((((t497++(⟨#[32,43,32]⟩:ByteArray))++t498)++(⟨#[32,61,32]⟩:ByteArray))++t499)) else (none))) else (none)) else (none))) else (none))) else ((spec_TrmText.f k l0_1).bind fun t500=>(some t500)))))) else (some (⟨#[]⟩:ByteArray)))
def spec_GoalText.T5:Bool × List (List Nat × List Nat):=(true,[([],[]),([0],[0]),([1],[1]),([2],[2]),([],[]),([4],[4]),([5,2],[5]),([3,6],[3,6]),([7,6,0,1,2,3,4,5,6,7],[7])])
def spec_GoalText.B5:List Nat:=[0,1,3,7,0,16,55,127,255]
theorem spec_GoalText.tab5:rtab .any (opsOf Tryz.f14 5)=spec_GoalText.T5:=by kernel_rfl
theorem spec_GoalText.bits5:waitsOk spec_GoalText.T5.2 spec_GoalText.B5=true:=by kernel_rfl
def spec_GoalText.T9:Bool × List (List Nat × List Nat):=(true,[([],[]),([0],[0]),([1],[1]),([2],[2]),([],[]),([4],[4]),([5,2],[5]),([3,6],[3,6]),([7,6,0,1,2,3,4,5,6,7],[7])])
def spec_GoalText.B9:List Nat:=[0,1,3,7,0,16,55,127,255]
theorem spec_GoalText.tab9:rtab .any (opsOf Tryz.f14 9)=spec_GoalText.T9:=by kernel_rfl
theorem spec_GoalText.bits9:waitsOk spec_GoalText.T9.2 spec_GoalText.B9=true:=by kernel_rfl
def spec_GoalText.T11:Bool × List (List Nat × List Nat):=(true,[([],[]),([0],[0]),([1],[1]),([2],[2]),([],[]),([4],[4]),([5,2],[5]),([3,6],[3,6]),([7],[7]),([],[]),([9],[9]),([10,6],[10]),([8,11],[8,11]),([12,11,0,1,2,3,4,5,6,7,8,9,10,11,12],[12])])
def spec_GoalText.B11:List Nat:=[0,1,3,7,0,16,55,127,255,0,512,1655,4095,8191]
theorem spec_GoalText.tab11:rtab .any (opsOf Tryz.f14 11)=spec_GoalText.T11:=by kernel_rfl
theorem spec_GoalText.bits11:waitsOk spec_GoalText.T11.2 spec_GoalText.B11=true:=by kernel_rfl
set_option maxHeartbeats 8000000 in
set_option maxRecDepth 100000 in
theorem spec_GoalText.calls (k:Nat) (a0_0:Int) (A0_1:Option Addr) (c0_1:Nat) (l0_1:List (S63)) (A0_2:Option Addr) (c0_2:Nat) (l0_2:List (S63)) (A0_3:Option Addr) (c0_3:Nat) (l0_3:List (S63)) (r:ByteArray) (w:World) (hr0_1:Kd.C k63 w A0_1 l0_1.length l0_1) (hc0_1:l0_1.length≤c0_1) (hr0_2:Kd.C k63 w A0_2 l0_2.length l0_2) (hc0_2:l0_2.length≤c0_2) (hr0_3:Kd.C k63 w A0_3 l0_3.length l0_3) (hc0_3:l0_3.length≤c0_3) (h:spec_GoalText.f k a0_0 l0_1 l0_2 l0_3=some r) :
  Calls Tryz.prog 14 #[.agg #[.int .i64 a0_0,.slice A0_1 l0_1.length c0_1,.slice A0_2 l0_2.length c0_2,.slice A0_3 l0_3.length c0_3]] w fun e w'=>e = .returned (.string r)∧Below w.heap.size w w':=by
 have hu24:=Tryz.underlying24;have HR0_1:=Aside0.mk hr0_1;have HC0_1:=Aside0.mk hc0_1;clear hr0_1 hc0_1;have HR0_2:=Aside0.mk hr0_2;have HC0_2:=Aside0.mk hc0_2;clear hr0_2 hc0_2;have HR0_3:=Aside0.mk hr0_3;have HC0_3:=Aside0.mk hc0_3;clear hr0_3 hc0_3;have HB:=Aside0.mk (Below.refl w.heap.size w);have H:((spec_GoalOk.f k a0_0 l0_1 l0_2 l0_3).bind fun t492=>(if t492=true then (if a0_0=2 then ((spec_TrmText.f k l0_1).bind fun t493=>(if t493.size+3≤9223372036854775807 then ((spec_TrmText.f k l0_2).bind fun t494=>(if (t493++(⟨#[32,61,32]⟩:ByteArray)).size+t494.size≤9223372036854775807 then (some ((t493++(⟨#[32,61,32]⟩:ByteArray))++t494)) else (none))) else (none))) else (if a0_0=3 then (some (⟨#[33]⟩:ByteArray)) else (if a0_0=4 then ((spec_TrmText.f k l0_1).bind fun t495=>(if t495.size+3≤9223372036854775807 then ((spec_TrmText.f k l0_2).bind fun t496=>(if (t495++(⟨#[32,60,32]⟩:ByteArray)).size+t496.size≤9223372036854775807 then (some ((t495++(⟨#[32,60,32]⟩:ByteArray))++t496)) else (none))) else (none))) else (if a0_0=5 then ((spec_TrmText.f k l0_1).bind fun t497=>(if t497.size+3≤9223372036854775807 then ((spec_TrmText.f k l0_2).bind fun t498=>(if (t497++(⟨#[32,43,32]⟩:ByteArray)).size+t498.size≤9223372036854775807 then (if ((t497++(⟨#[32,43,32]⟩:ByteArray))++t498).size+3≤9223372036854775807 then ((spec_TrmText.f k l0_3).bind fun t499=>(if (((t497++(⟨#[32,43,32]⟩:ByteArray))++t498)++(⟨#[32,61,32]⟩:ByteArray)).size+t499.size≤9223372036854775807 then (some ((((t497++(⟨#[32,43,32]⟩:ByteArray))++t498)++(⟨#[32,61,32]⟩:ByteArray))++t499)) else (none))) else (none)) else (none))) else (none))) else ((spec_TrmText.f k l0_1).bind fun t500=>(some t500)))))) else (some (⟨#[]⟩:ByteArray))))=some r:=h;clear h;replace H:=Option.bind_eq_some_iff.mp H;obtain ⟨t492,A20,H⟩:=H;(try dsimp only at H);have A2:=Aside0.mk A20;clear A20;have HC3:=Aside0.mk H;clear H;go_enter Tryz.func14,Tryz.ntmps14;go_upto_if 5 with (first|((with_reducible refine gate_dst (N:=1) rfl ?_);refine box_event ?hg (N:=1) ?hd (cs:=#[.int .i64 a0_0,.slice A0_1 l0_1.length c0_1,.slice A0_2 l0_2.length c0_2,.slice A0_3 l0_3.length c0_3]) (t:=24) ?hr ?_;(case hd=>rfl);(case hg=>rfl);(case hr=>first|(go_simp;done)|(go_simp;rfl));intro gb491 hg w4 hbox hb;have n_:=as3 (below_step qz5 hb) (hbox) ((by rw [hg];exact (below_size qz5):w.heap.size≤gb491));clear HB;obtain ⟨HB,BK491,GE491⟩:=n_;clear hb hbox hg;obtain ⟨hcz5_0,hcz5_1,hcz5_2,hcz5_3,hfz5_0,hfz5_1,hfz5_2,hfz5_3⟩:=blk4 BK491.out)|(go_at_call 17;(with_reducible refine (spec_GoalOk.calls k a0_0 _ _ l0_1 _ _ l0_2 _ _ l0_3 t492 _ ?side1 ?side2 ?side3 ?side4 ?side5 ?side6 A2.out).mono ?_);(case side1=>exact qz13);(case side2=>exact HC0_1.out);(case side3=>exact qz22);(case side4=>exact HC0_2.out);(case side5=>exact qz39);(case side6=>exact HC0_3.out);rintro e w6 ⟨rfl,hb⟩;have n_:=as2 (blk_below (blkp BK491.out) hb) (below_step qz28 hb);clear BK491 HB;obtain ⟨BK491,HB⟩:=n_;clear hb))
 (try simp only [Act.put,sA_,sZ_,sS_]);have H:=HC3.out;clear HC3;by_cases c7:t492=true
 ·subst c7
  have H1:(if a0_0=2 then ((spec_TrmText.f k l0_1).bind fun t493=>(if t493.size+3≤9223372036854775807 then ((spec_TrmText.f k l0_2).bind fun t494=>(if (t493++(⟨#[32,61,32]⟩:ByteArray)).size+t494.size≤9223372036854775807 then (some ((t493++(⟨#[32,61,32]⟩:ByteArray))++t494)) else (none))) else (none))) else (if a0_0=3 then (some (⟨#[33]⟩:ByteArray)) else (if a0_0=4 then ((spec_TrmText.f k l0_1).bind fun t495=>(if t495.size+3≤9223372036854775807 then ((spec_TrmText.f k l0_2).bind fun t496=>(if (t495++(⟨#[32,60,32]⟩:ByteArray)).size+t496.size≤9223372036854775807 then (some ((t495++(⟨#[32,60,32]⟩:ByteArray))++t496)) else (none))) else (none))) else (if a0_0=5 then ((spec_TrmText.f k l0_1).bind fun t497=>(if t497.size+3≤9223372036854775807 then ((spec_TrmText.f k l0_2).bind fun t498=>(if (t497++(⟨#[32,43,32]⟩:ByteArray)).size+t498.size≤9223372036854775807 then (if ((t497++(⟨#[32,43,32]⟩:ByteArray))++t498).size+3≤9223372036854775807 then ((spec_TrmText.f k l0_3).bind fun t499=>(if (((t497++(⟨#[32,43,32]⟩:ByteArray))++t498)++(⟨#[32,61,32]⟩:ByteArray)).size+t499.size≤9223372036854775807 then (some ((((t497++(⟨#[32,43,32]⟩:ByteArray))++t498)++(⟨#[32,61,32]⟩:ByteArray))++t499)) else (none))) else (none)) else (none))) else (none))) else ((spec_TrmText.f k l0_1).bind fun t500=>(some t500))))))=some r:=qz37;clear H;have H:=H1;clear H1;by_cases c8:a0_0=2
  ·rw [if_pos c8] at H
   have c8b0:(a0_0 == 2)=true:=beq_iff_eq.mpr c8;have c8b1:(a0_0 != 2)=false:=bne_eq_false_iff_eq.mpr c8;clear c8;(first|rw [c8b0]|rw [c8b1]|(simp only [i64_w,i32_w];rw [c8b0])|skip);replace H:=Option.bind_eq_some_iff.mp H;obtain ⟨t493,A90,H⟩:=H;(try dsimp only at H);have A9:=Aside0.mk A90;clear A90;by_cases c10:t493.size+3≤9223372036854775807
   ·rw [if_pos c10] at H
    have c10b0:=eq_true c10;have c10b1:decide (t493.size+3≤9223372036854775807)=true:=decide_eq_true c10;(try have c10b2:(9223372036854775807<t493.size+3)=False:=eq_false (Nat.not_lt.2 c10));replace H:=Option.bind_eq_some_iff.mp H;obtain ⟨t494,A110,H⟩:=H;(try dsimp only at H);have A11:=Aside0.mk A110;clear A110;by_cases c12:(t493++(⟨#[32,61,32]⟩:ByteArray)).size+t494.size≤9223372036854775807
    ·rw [if_pos c12] at H
     have c12b0:=eq_true c12;have c12b1:decide ((t493++(⟨#[32,61,32]⟩:ByteArray)).size+t494.size≤9223372036854775807)=true:=decide_eq_true c12;(try (have c12b1s:=c12b1;simp only [ByteArray.size_append,(show (⟨#[32,61,32]⟩:ByteArray).size=3 from rfl)] at c12b1s));(try have c12b2:(9223372036854775807<(t493++(⟨#[32,61,32]⟩:ByteArray)).size+t494.size)=False:=eq_false (Nat.not_lt.2 c12));(try (have c12b2s:=c12b2;simp only [ByteArray.size_append,(show (⟨#[32,61,32]⟩:ByteArray).size=3 from rfl)] at c12b2s));obtain rfl:=Option.some.inj H;obtain ⟨hcz13_0,hcz13_1,hcz13_2,hcz13_3,hfz13_0,hfz13_1,hfz13_2,hfz13_3⟩:=blk4 BK491.out;(try go_wp2);have n_:=as2 (blk_drew BK491.out) (below_drew1 HB.out);clear BK491 HB;obtain ⟨BK491,HB⟩:=n_;refine start_ (n:=9) (S:=fun w'=>w'.cell? ⟨gb491,0,none⟩=some (.int .i64 a0_0)∧w'.cell? ⟨gb491,1,none⟩=some (.slice A0_1 l0_1.length c0_1)∧w'.cell? ⟨gb491,2,none⟩=some (.slice A0_2 l0_2.length c0_2)∧w'.cell? ⟨gb491,3,none⟩=some (.slice A0_3 l0_3.length c0_3)) (ds:=[]) #[false,false,false,false,false,false,false,false,false] (by kernel_rfl) rfl rfl ⟨(blk_cell BK491.out 0).trans rfl,(blk_cell BK491.out 1).trans rfl,(blk_cell BK491.out 2).trans rfl,(blk_cell BK491.out 3).trans rfl⟩ (fun hHeld=>?_);refine with_tabW spec_GoalText.tab5 spec_GoalText.bits5 (fun HT_ HW_=>?_)
     generalize w6.drew=w14 at BK491 HB hHeld ⊢
     refine pure_ (i:=0) (N:=some 10) (v:=?_) (a':=?_) #[true,false,false,false,false,false,false,false,false] rfl rfl (any_of HT_.out (by kernel_rfl)) (fun _ _ _ h=>h) (Or.inl ⟨by rfl,?_⟩) ?_ ?_;rotate_left
     ·intro w'
      go_simp;with_reducible rfl
     rotate_left
     ·simp only [Act.put,sA_,sZ_,sS_,i64_w,i32_w]
      rfl
     refine pure_ (i:=4) (N:=some 14) (v:=?_) (a':=?_) #[true,false,false,false,true,false,false,false,false] rfl rfl (any_of HT_.out (by kernel_rfl)) (fun _ _ _ h=>h) (Or.inl ⟨by rfl,?_⟩) ?_ ?_;rotate_left
     ·intro w'
      go_simp;with_reducible rfl
     rotate_left
     ·simp only [Act.put,sA_,sZ_,sS_,i64_w,i32_w]
      rfl
     refine take_ (i:=1) (N:=some 11) (v:=?_) (a':=?_) #[true,true,false,false,true,false,false,false,false] rfl rfl (take_ofW HT_.out HW_.out (by kernel_rfl)) (fun _ _ _ h=>h) (Or.inl ⟨by rfl,?_⟩) hHeld ?_ ?_;rotate_left
     ·rintro w' ⟨s0,s1,s2,s3⟩
      go_simp;with_reducible rfl
     rotate_left
     ·simp only [Act.put,sA_,sZ_,sS_,i64_w,i32_w]
      rfl
     refine take_ (i:=5) (N:=some 15) (v:=?_) (a':=?_) #[true,true,false,false,true,true,false,false,false] rfl rfl (take_ofW HT_.out HW_.out (by kernel_rfl)) (fun _ _ _ h=>h) (Or.inl ⟨by rfl,?_⟩) hHeld ?_ ?_;rotate_left
     ·rintro w' ⟨s0,s1,s2,s3⟩
      go_simp;with_reducible rfl
     rotate_left
     ·simp only [Act.put,sA_,sZ_,sS_,i64_w,i32_w]
      rfl
     refine one_ (i:=2) (N:=some 12) #[true,true,true,false,true,true,false,false,false] rfl rfl (one_of HT_.out (by kernel_rfl)) (by decide) (fun K hK=>?_);refine goes_ Tryz.func36 (by kernel_rfl) rfl #[.slice A0_1 l0_1.length c0_1] (by rfl) rfl rfl qz17 ?_;(with_reducible refine (spec_TrmText.calls k _ _ l0_1 t493 _ ?side1 ?side2 A9.out).mono ?_)
     (case side1=>exact qz13)
     (case side2=>exact HC0_1.out)
     rintro e w15 ⟨rfl,hb⟩;refine ⟨_,rfl,?_⟩;have n_:=as2 (blk_below (blkp BK491.out) hb) (below_step qz28 hb);clear BK491 HB;obtain ⟨BK491,HB⟩:=n_;(try clear hb);(try clear hb2);(try clear hk);(try clear hi);refine hK.out _ _ ⟨(blk_cell BK491.out 0).trans rfl,(blk_cell BK491.out 1).trans rfl,(blk_cell BK491.out 2).trans rfl,(blk_cell BK491.out 3).trans rfl⟩ (fun hHeld=>?_);clear hK K;refine norm_ (a':=?_) ?_ ?_;rotate_left
     ·show Act.put _ (some 12) _=_
      simp only [Act.put,sA_,sZ_,sS_,i64_w,i32_w];rfl
     refine pure_ (i:=3) (N:=some 13) (v:=?_) (a':=?_) #[true,true,true,true,true,true,false,false,false] rfl rfl (any_of HT_.out (by kernel_rfl)) (fun _ _ _ h=>h) (Or.inl ⟨by rfl,?_⟩) ?_ ?_;rotate_left
     ·intro w'
      go_simp;with_reducible rfl
     rotate_left
     ·simp only [Act.put,sA_,sZ_,sS_,i64_w,i32_w]
      rfl
     refine one_ (i:=6) (N:=some 16) #[true,true,true,true,true,true,true,false,false] rfl rfl (one_of HT_.out (by kernel_rfl)) (by decide) (fun K hK=>?_);refine goes_ Tryz.func36 (by kernel_rfl) rfl #[.slice A0_2 l0_2.length c0_2] (by rfl) rfl rfl qz17 ?_;(with_reducible refine (spec_TrmText.calls k _ _ l0_2 t494 _ ?side1 ?side2 A11.out).mono ?_)
     (case side1=>exact qz22)
     (case side2=>exact HC0_2.out)
     rintro e w16 ⟨rfl,hb⟩;refine ⟨_,rfl,?_⟩;have n_:=as2 (blk_below (blkp BK491.out) hb) (below_step qz28 hb);clear BK491 HB;obtain ⟨BK491,HB⟩:=n_;(try clear hb);(try clear hb2);(try clear hk);(try clear hi);refine hK.out _ _ ⟨(blk_cell BK491.out 0).trans rfl,(blk_cell BK491.out 1).trans rfl,(blk_cell BK491.out 2).trans rfl,(blk_cell BK491.out 3).trans rfl⟩ (fun hHeld=>?_);clear hK K;refine norm_ (a':=?_) ?_ ?_;rotate_left
     ·show Act.put _ (some 16) _=_
      simp only [Act.put,sA_,sZ_,sS_,i64_w,i32_w];rfl
     refine pure_ (i:=7) (N:=some 17) (v:=?_) (a':=?_) #[true,true,true,true,true,true,true,true,false] rfl rfl (any_of HT_.out (by kernel_rfl)) (fun _ _ _ h=>h) (Or.inl ⟨by rfl,?_⟩) ?_ ?_;rotate_left
     ·intro w'
      go_simp;with_reducible rfl
     rotate_left
     ·simp only [Act.put,sA_,sZ_,sS_,i64_w,i32_w]
      rfl
     refine pure_ (i:=8) (N:=some 2) (v:=?_) (a':=?_) #[true,true,true,true,true,true,true,true,true] rfl rfl (any_of HT_.out (by kernel_rfl)) (fun _ _ _ h=>h) (Or.inl ⟨by rfl,?_⟩) ?_ ?_;rotate_left
     ·intro w'
      go_simp;with_reducible rfl
     rotate_left
     ·simp only [Act.put,sA_,sZ_,sS_,i64_w,i32_w]
      rfl
     refine done_ (done_of HT_.out (by kernel_rfl)) ?_;(try go_wp2);go_ret;exact ⟨qz4,qz28⟩
    ·rw [if_neg c12] at H
     exact absurd H (by simp)
   ·rw [if_neg c10] at H
    exact absurd H (by simp)
  ·rw [if_neg c8] at H
   have c8b0:(a0_0 == 2)=false:=beq_eq_false_iff_ne.mpr c8;have c8b1:(a0_0 != 2)=true:=bne_iff_ne.mpr c8;(first|rw [c8b0]|rw [c8b1]|(simp only [i64_w,i32_w];rw [c8b0])|skip);by_cases c17:a0_0=3
   ·rw [if_pos c17] at H
    have c17b0:(a0_0 == 3)=true:=beq_iff_eq.mpr c17;have c17b1:(a0_0 != 3)=false:=bne_eq_false_iff_eq.mpr c17;clear c17;obtain rfl:=Option.some.inj H;obtain ⟨hcz18_0,hcz18_1,hcz18_2,hcz18_3,hfz18_0,hfz18_1,hfz18_2,hfz18_3⟩:=blk4 BK491.out;go_wp2;go_ret;exact ⟨qz4,qz28⟩
   ·rw [if_neg c17] at H
    have c17b0:(a0_0 == 3)=false:=beq_eq_false_iff_ne.mpr c17;have c17b1:(a0_0 != 3)=true:=bne_iff_ne.mpr c17;by_cases c19:a0_0=4
    ·rw [if_pos c19] at H
     have c19b0:(a0_0 == 4)=true:=beq_iff_eq.mpr c19;have c19b1:(a0_0 != 4)=false:=bne_eq_false_iff_eq.mpr c19;clear c19;replace H:=Option.bind_eq_some_iff.mp H;obtain ⟨t495,A200,H⟩:=H;(try dsimp only at H);have A20:=Aside0.mk A200;clear A200;by_cases c21:t495.size+3≤9223372036854775807
     ·rw [if_pos c21] at H
      have c21b0:=eq_true c21;have c21b1:decide (t495.size+3≤9223372036854775807)=true:=decide_eq_true c21;(try have c21b2:(9223372036854775807<t495.size+3)=False:=eq_false (Nat.not_lt.2 c21));replace H:=Option.bind_eq_some_iff.mp H;obtain ⟨t496,A220,H⟩:=H;(try dsimp only at H);have A22:=Aside0.mk A220;clear A220;by_cases c23:(t495++(⟨#[32,60,32]⟩:ByteArray)).size+t496.size≤9223372036854775807
      ·rw [if_pos c23] at H
       have c23b0:=eq_true c23;have c23b1:decide ((t495++(⟨#[32,60,32]⟩:ByteArray)).size+t496.size≤9223372036854775807)=true:=decide_eq_true c23;(try (have c23b1s:=c23b1;simp only [ByteArray.size_append,(show (⟨#[32,60,32]⟩:ByteArray).size=3 from rfl)] at c23b1s));(try have c23b2:(9223372036854775807<(t495++(⟨#[32,60,32]⟩:ByteArray)).size+t496.size)=False:=eq_false (Nat.not_lt.2 c23));(try (have c23b2s:=c23b2;simp only [ByteArray.size_append,(show (⟨#[32,60,32]⟩:ByteArray).size=3 from rfl)] at c23b2s));obtain rfl:=Option.some.inj H;obtain ⟨hcz24_0,hcz24_1,hcz24_2,hcz24_3,hfz24_0,hfz24_1,hfz24_2,hfz24_3⟩:=blk4 BK491.out;(try go_wp2);have n_:=as2 (blk_drew BK491.out) (below_drew1 HB.out);clear BK491 HB;obtain ⟨BK491,HB⟩:=n_;refine start_ (n:=9) (S:=fun w'=>w'.cell? ⟨gb491,0,none⟩=some (.int .i64 a0_0)∧w'.cell? ⟨gb491,1,none⟩=some (.slice A0_1 l0_1.length c0_1)∧w'.cell? ⟨gb491,2,none⟩=some (.slice A0_2 l0_2.length c0_2)∧w'.cell? ⟨gb491,3,none⟩=some (.slice A0_3 l0_3.length c0_3)) (ds:=[]) #[false,false,false,false,false,false,false,false,false] (by kernel_rfl) rfl rfl ⟨(blk_cell BK491.out 0).trans rfl,(blk_cell BK491.out 1).trans rfl,(blk_cell BK491.out 2).trans rfl,(blk_cell BK491.out 3).trans rfl⟩ (fun hHeld=>?_);refine with_tabW spec_GoalText.tab9 spec_GoalText.bits9 (fun HT_ HW_=>?_)
       generalize w6.drew=w25 at BK491 HB hHeld ⊢
       refine pure_ (i:=0) (N:=some 22) (v:=?_) (a':=?_) #[true,false,false,false,false,false,false,false,false] rfl rfl (any_of HT_.out (by kernel_rfl)) (fun _ _ _ h=>h) (Or.inl ⟨by rfl,?_⟩) ?_ ?_;rotate_left
       ·intro w'
        go_simp;with_reducible rfl
       rotate_left
       ·simp only [Act.put,sA_,sZ_,sS_,i64_w,i32_w]
        rfl
       refine pure_ (i:=4) (N:=some 26) (v:=?_) (a':=?_) #[true,false,false,false,true,false,false,false,false] rfl rfl (any_of HT_.out (by kernel_rfl)) (fun _ _ _ h=>h) (Or.inl ⟨by rfl,?_⟩) ?_ ?_;rotate_left
       ·intro w'
        go_simp;with_reducible rfl
       rotate_left
       ·simp only [Act.put,sA_,sZ_,sS_,i64_w,i32_w]
        rfl
       refine take_ (i:=1) (N:=some 23) (v:=?_) (a':=?_) #[true,true,false,false,true,false,false,false,false] rfl rfl (take_ofW HT_.out HW_.out (by kernel_rfl)) (fun _ _ _ h=>h) (Or.inl ⟨by rfl,?_⟩) hHeld ?_ ?_;rotate_left
       ·rintro w' ⟨s0,s1,s2,s3⟩
        go_simp;with_reducible rfl
       rotate_left
       ·simp only [Act.put,sA_,sZ_,sS_,i64_w,i32_w]
        rfl
       refine take_ (i:=5) (N:=some 27) (v:=?_) (a':=?_) #[true,true,false,false,true,true,false,false,false] rfl rfl (take_ofW HT_.out HW_.out (by kernel_rfl)) (fun _ _ _ h=>h) (Or.inl ⟨by rfl,?_⟩) hHeld ?_ ?_;rotate_left
       ·rintro w' ⟨s0,s1,s2,s3⟩
        go_simp;with_reducible rfl
       rotate_left
       ·simp only [Act.put,sA_,sZ_,sS_,i64_w,i32_w]
        rfl
       refine one_ (i:=2) (N:=some 24) #[true,true,true,false,true,true,false,false,false] rfl rfl (one_of HT_.out (by kernel_rfl)) (by decide) (fun K hK=>?_);refine goes_ Tryz.func36 (by kernel_rfl) rfl #[.slice A0_1 l0_1.length c0_1] (by rfl) rfl rfl qz17 ?_;(with_reducible refine (spec_TrmText.calls k _ _ l0_1 t495 _ ?side1 ?side2 A20.out).mono ?_)
       (case side1=>exact qz13)
       (case side2=>exact HC0_1.out)
       rintro e w26 ⟨rfl,hb⟩;refine ⟨_,rfl,?_⟩;have n_:=as2 (blk_below (blkp BK491.out) hb) (below_step qz28 hb);clear BK491 HB;obtain ⟨BK491,HB⟩:=n_;(try clear hb);(try clear hb2);(try clear hk);(try clear hi);refine hK.out _ _ ⟨(blk_cell BK491.out 0).trans rfl,(blk_cell BK491.out 1).trans rfl,(blk_cell BK491.out 2).trans rfl,(blk_cell BK491.out 3).trans rfl⟩ (fun hHeld=>?_);clear hK K;refine norm_ (a':=?_) ?_ ?_;rotate_left
       ·show Act.put _ (some 24) _=_
        simp only [Act.put,sA_,sZ_,sS_,i64_w,i32_w];rfl
       refine pure_ (i:=3) (N:=some 25) (v:=?_) (a':=?_) #[true,true,true,true,true,true,false,false,false] rfl rfl (any_of HT_.out (by kernel_rfl)) (fun _ _ _ h=>h) (Or.inl ⟨by rfl,?_⟩) ?_ ?_;rotate_left
       ·intro w'
        go_simp;with_reducible rfl
       rotate_left
       ·simp only [Act.put,sA_,sZ_,sS_,i64_w,i32_w]
        rfl
       refine one_ (i:=6) (N:=some 28) #[true,true,true,true,true,true,true,false,false] rfl rfl (one_of HT_.out (by kernel_rfl)) (by decide) (fun K hK=>?_);refine goes_ Tryz.func36 (by kernel_rfl) rfl #[.slice A0_2 l0_2.length c0_2] (by rfl) rfl rfl qz17 ?_;(with_reducible refine (spec_TrmText.calls k _ _ l0_2 t496 _ ?side1 ?side2 A22.out).mono ?_)
       (case side1=>exact qz22)
       (case side2=>exact HC0_2.out)
       rintro e w27 ⟨rfl,hb⟩;refine ⟨_,rfl,?_⟩;have n_:=as2 (blk_below (blkp BK491.out) hb) (below_step qz28 hb);clear BK491 HB;obtain ⟨BK491,HB⟩:=n_;(try clear hb);(try clear hb2);(try clear hk);(try clear hi);refine hK.out _ _ ⟨(blk_cell BK491.out 0).trans rfl,(blk_cell BK491.out 1).trans rfl,(blk_cell BK491.out 2).trans rfl,(blk_cell BK491.out 3).trans rfl⟩ (fun hHeld=>?_);clear hK K;refine norm_ (a':=?_) ?_ ?_;rotate_left
       ·show Act.put _ (some 28) _=_
        simp only [Act.put,sA_,sZ_,sS_,i64_w,i32_w];rfl
       refine pure_ (i:=7) (N:=some 29) (v:=?_) (a':=?_) #[true,true,true,true,true,true,true,true,false] rfl rfl (any_of HT_.out (by kernel_rfl)) (fun _ _ _ h=>h) (Or.inl ⟨by rfl,?_⟩) ?_ ?_;rotate_left
       ·intro w'
        go_simp;with_reducible rfl
       rotate_left
       ·simp only [Act.put,sA_,sZ_,sS_,i64_w,i32_w]
        rfl
       refine pure_ (i:=8) (N:=some 2) (v:=?_) (a':=?_) #[true,true,true,true,true,true,true,true,true] rfl rfl (any_of HT_.out (by kernel_rfl)) (fun _ _ _ h=>h) (Or.inl ⟨by rfl,?_⟩) ?_ ?_;rotate_left
       ·intro w'
        go_simp;with_reducible rfl
       rotate_left
       ·simp only [Act.put,sA_,sZ_,sS_,i64_w,i32_w]
        rfl
       refine done_ (done_of HT_.out (by kernel_rfl)) ?_;(try go_wp2);go_ret;exact ⟨qz4,qz28⟩
      ·rw [if_neg c23] at H
       exact absurd H (by simp)
     ·rw [if_neg c21] at H
      exact absurd H (by simp)
    ·rw [if_neg c19] at H
     have c19b0:(a0_0 == 4)=false:=beq_eq_false_iff_ne.mpr c19;have c19b1:(a0_0 != 4)=true:=bne_iff_ne.mpr c19;by_cases c28:a0_0=5
     ·rw [if_pos c28] at H
      have c28b0:(a0_0 == 5)=true:=beq_iff_eq.mpr c28;have c28b1:(a0_0 != 5)=false:=bne_eq_false_iff_eq.mpr c28;clear c28;replace H:=Option.bind_eq_some_iff.mp H;obtain ⟨t497,A290,H⟩:=H;(try dsimp only at H);have A29:=Aside0.mk A290;clear A290;by_cases c30:t497.size+3≤9223372036854775807
      ·rw [if_pos c30] at H
       have c30b0:=eq_true c30;have c30b1:decide (t497.size+3≤9223372036854775807)=true:=decide_eq_true c30;(try have c30b2:(9223372036854775807<t497.size+3)=False:=eq_false (Nat.not_lt.2 c30));replace H:=Option.bind_eq_some_iff.mp H;obtain ⟨t498,A310,H⟩:=H;(try dsimp only at H);have A31:=Aside0.mk A310;clear A310;by_cases c32:(t497++(⟨#[32,43,32]⟩:ByteArray)).size+t498.size≤9223372036854775807
       ·rw [if_pos c32] at H
        have c32b0:=eq_true c32;have c32b1:decide ((t497++(⟨#[32,43,32]⟩:ByteArray)).size+t498.size≤9223372036854775807)=true:=decide_eq_true c32;(try (have c32b1s:=c32b1;simp only [ByteArray.size_append,(show (⟨#[32,43,32]⟩:ByteArray).size=3 from rfl)] at c32b1s));(try have c32b2:(9223372036854775807<(t497++(⟨#[32,43,32]⟩:ByteArray)).size+t498.size)=False:=eq_false (Nat.not_lt.2 c32));(try (have c32b2s:=c32b2;simp only [ByteArray.size_append,(show (⟨#[32,43,32]⟩:ByteArray).size=3 from rfl)] at c32b2s));by_cases c33:((t497++(⟨#[32,43,32]⟩:ByteArray))++t498).size+3≤9223372036854775807
        ·rw [if_pos c33] at H
         have c33b0:=eq_true c33;have c33b1:decide (((t497++(⟨#[32,43,32]⟩:ByteArray))++t498).size+3≤9223372036854775807)=true:=decide_eq_true c33;(try (have c33b1s:=c33b1;simp only [ByteArray.size_append,(show (⟨#[32,43,32]⟩:ByteArray).size=3 from rfl)] at c33b1s));(try have c33b2:(9223372036854775807<((t497++(⟨#[32,43,32]⟩:ByteArray))++t498).size+3)=False:=eq_false (Nat.not_lt.2 c33));(try (have c33b2s:=c33b2;simp only [ByteArray.size_append,(show (⟨#[32,43,32]⟩:ByteArray).size=3 from rfl)] at c33b2s));replace H:=Option.bind_eq_some_iff.mp H;obtain ⟨t499,A340,H⟩:=H;(try dsimp only at H);have A34:=Aside0.mk A340;clear A340;by_cases c35:(((t497++(⟨#[32,43,32]⟩:ByteArray))++t498)++(⟨#[32,61,32]⟩:ByteArray)).size+t499.size≤9223372036854775807
         ·rw [if_pos c35] at H
          have c35b0:=eq_true c35;have c35b1:decide ((((t497++(⟨#[32,43,32]⟩:ByteArray))++t498)++(⟨#[32,61,32]⟩:ByteArray)).size+t499.size≤9223372036854775807)=true:=decide_eq_true c35;(try (have c35b1s:=c35b1;simp only [ByteArray.size_append,(show (⟨#[32,43,32]⟩:ByteArray).size=3 from rfl),(show (⟨#[32,61,32]⟩:ByteArray).size=3 from rfl)] at c35b1s));(try have c35b2:(9223372036854775807<(((t497++(⟨#[32,43,32]⟩:ByteArray))++t498)++(⟨#[32,61,32]⟩:ByteArray)).size+t499.size)=False:=eq_false (Nat.not_lt.2 c35));(try (have c35b2s:=c35b2;simp only [ByteArray.size_append,(show (⟨#[32,43,32]⟩:ByteArray).size=3 from rfl),(show (⟨#[32,61,32]⟩:ByteArray).size=3 from rfl)] at c35b2s));obtain rfl:=Option.some.inj H;obtain ⟨hcz36_0,hcz36_1,hcz36_2,hcz36_3,hfz36_0,hfz36_1,hfz36_2,hfz36_3⟩:=blk4 BK491.out;(try go_wp2);have n_:=as2 (blk_drew BK491.out) (below_drew1 HB.out);clear BK491 HB;obtain ⟨BK491,HB⟩:=n_;refine start_ (n:=14) (S:=fun w'=>w'.cell? ⟨gb491,0,none⟩=some (.int .i64 a0_0)∧w'.cell? ⟨gb491,1,none⟩=some (.slice A0_1 l0_1.length c0_1)∧w'.cell? ⟨gb491,2,none⟩=some (.slice A0_2 l0_2.length c0_2)∧w'.cell? ⟨gb491,3,none⟩=some (.slice A0_3 l0_3.length c0_3)) (ds:=[]) #[false,false,false,false,false,false,false,false,false,false,false,false,false,false] (by kernel_rfl) rfl rfl ⟨(blk_cell BK491.out 0).trans rfl,(blk_cell BK491.out 1).trans rfl,(blk_cell BK491.out 2).trans rfl,(blk_cell BK491.out 3).trans rfl⟩ (fun hHeld=>?_);refine with_tabW spec_GoalText.tab11 spec_GoalText.bits11 (fun HT_ HW_=>?_)
          generalize w6.drew=w37 at BK491 HB hHeld ⊢
          refine pure_ (i:=0) (N:=some 32) (v:=?_) (a':=?_) #[true,false,false,false,false,false,false,false,false,false,false,false,false,false] rfl rfl (any_of HT_.out (by kernel_rfl)) (fun _ _ _ h=>h) (Or.inl ⟨by rfl,?_⟩) ?_ ?_;rotate_left
          ·intro w'
           go_simp;with_reducible rfl
          rotate_left
          ·simp only [Act.put,sA_,sZ_,sS_,i64_w,i32_w]
           rfl
          refine pure_ (i:=4) (N:=some 36) (v:=?_) (a':=?_) #[true,false,false,false,true,false,false,false,false,false,false,false,false,false] rfl rfl (any_of HT_.out (by kernel_rfl)) (fun _ _ _ h=>h) (Or.inl ⟨by rfl,?_⟩) ?_ ?_;rotate_left
          ·intro w'
           go_simp;with_reducible rfl
          rotate_left
          ·simp only [Act.put,sA_,sZ_,sS_,i64_w,i32_w]
           rfl
          refine pure_ (i:=9) (N:=some 41) (v:=?_) (a':=?_) #[true,false,false,false,true,false,false,false,false,true,false,false,false,false] rfl rfl (any_of HT_.out (by kernel_rfl)) (fun _ _ _ h=>h) (Or.inl ⟨by rfl,?_⟩) ?_ ?_;rotate_left
          ·intro w'
           go_simp;with_reducible rfl
          rotate_left
          ·simp only [Act.put,sA_,sZ_,sS_,i64_w,i32_w]
           rfl
          refine take_ (i:=1) (N:=some 33) (v:=?_) (a':=?_) #[true,true,false,false,true,false,false,false,false,true,false,false,false,false] rfl rfl (take_ofW HT_.out HW_.out (by kernel_rfl)) (fun _ _ _ h=>h) (Or.inl ⟨by rfl,?_⟩) hHeld ?_ ?_;rotate_left
          ·rintro w' ⟨s0,s1,s2,s3⟩
           go_simp;with_reducible rfl
          rotate_left
          ·simp only [Act.put,sA_,sZ_,sS_,i64_w,i32_w]
           rfl
          refine take_ (i:=5) (N:=some 37) (v:=?_) (a':=?_) #[true,true,false,false,true,true,false,false,false,true,false,false,false,false] rfl rfl (take_ofW HT_.out HW_.out (by kernel_rfl)) (fun _ _ _ h=>h) (Or.inl ⟨by rfl,?_⟩) hHeld ?_ ?_;rotate_left
          ·rintro w' ⟨s0,s1,s2,s3⟩
           go_simp;with_reducible rfl
          rotate_left
          ·simp only [Act.put,sA_,sZ_,sS_,i64_w,i32_w]
           rfl
          refine take_ (i:=10) (N:=some 42) (v:=?_) (a':=?_) #[true,true,false,false,true,true,false,false,false,true,true,false,false,false] rfl rfl (take_ofW HT_.out HW_.out (by kernel_rfl)) (fun _ _ _ h=>h) (Or.inl ⟨by rfl,?_⟩) hHeld ?_ ?_;rotate_left
          ·rintro w' ⟨s0,s1,s2,s3⟩
           go_simp;with_reducible rfl
          rotate_left
          ·simp only [Act.put,sA_,sZ_,sS_,i64_w,i32_w]
           rfl
          refine one_ (i:=2) (N:=some 34) #[true,true,true,false,true,true,false,false,false,true,true,false,false,false] rfl rfl (one_of HT_.out (by kernel_rfl)) (by decide) (fun K hK=>?_);refine goes_ Tryz.func36 (by kernel_rfl) rfl #[.slice A0_1 l0_1.length c0_1] (by rfl) rfl rfl qz17 ?_;(with_reducible refine (spec_TrmText.calls k _ _ l0_1 t497 _ ?side1 ?side2 A29.out).mono ?_)
          (case side1=>exact qz13)
          (case side2=>exact HC0_1.out)
          rintro e w38 ⟨rfl,hb⟩;refine ⟨_,rfl,?_⟩;have n_:=as2 (blk_below (blkp BK491.out) hb) (below_step qz28 hb);clear BK491 HB;obtain ⟨BK491,HB⟩:=n_;(try clear hb);(try clear hb2);(try clear hk);(try clear hi);refine hK.out _ _ ⟨(blk_cell BK491.out 0).trans rfl,(blk_cell BK491.out 1).trans rfl,(blk_cell BK491.out 2).trans rfl,(blk_cell BK491.out 3).trans rfl⟩ (fun hHeld=>?_);clear hK K;refine norm_ (a':=?_) ?_ ?_;rotate_left
          ·show Act.put _ (some 34) _=_
           simp only [Act.put,sA_,sZ_,sS_,i64_w,i32_w];rfl
          refine pure_ (i:=3) (N:=some 35) (v:=?_) (a':=?_) #[true,true,true,true,true,true,false,false,false,true,true,false,false,false] rfl rfl (any_of HT_.out (by kernel_rfl)) (fun _ _ _ h=>h) (Or.inl ⟨by rfl,?_⟩) ?_ ?_;rotate_left
          ·intro w'
           go_simp;with_reducible rfl
          rotate_left
          ·simp only [Act.put,sA_,sZ_,sS_,i64_w,i32_w]
           rfl
          refine one_ (i:=6) (N:=some 38) #[true,true,true,true,true,true,true,false,false,true,true,false,false,false] rfl rfl (one_of HT_.out (by kernel_rfl)) (by decide) (fun K hK=>?_);refine goes_ Tryz.func36 (by kernel_rfl) rfl #[.slice A0_2 l0_2.length c0_2] (by rfl) rfl rfl qz17 ?_;(with_reducible refine (spec_TrmText.calls k _ _ l0_2 t498 _ ?side1 ?side2 A31.out).mono ?_)
          (case side1=>exact qz22)
          (case side2=>exact HC0_2.out)
          rintro e w39 ⟨rfl,hb⟩;refine ⟨_,rfl,?_⟩;have n_:=as2 (blk_below (blkp BK491.out) hb) (below_step qz28 hb);clear BK491 HB;obtain ⟨BK491,HB⟩:=n_;(try clear hb);(try clear hb2);(try clear hk);(try clear hi);refine hK.out _ _ ⟨(blk_cell BK491.out 0).trans rfl,(blk_cell BK491.out 1).trans rfl,(blk_cell BK491.out 2).trans rfl,(blk_cell BK491.out 3).trans rfl⟩ (fun hHeld=>?_);clear hK K;refine norm_ (a':=?_) ?_ ?_;rotate_left
          ·show Act.put _ (some 38) _=_
           simp only [Act.put,sA_,sZ_,sS_,i64_w,i32_w];rfl
          refine pure_ (i:=7) (N:=some 39) (v:=?_) (a':=?_) #[true,true,true,true,true,true,true,true,false,true,true,false,false,false] rfl rfl (any_of HT_.out (by kernel_rfl)) (fun _ _ _ h=>h) (Or.inl ⟨by rfl,?_⟩) ?_ ?_;rotate_left
          ·intro w'
           go_simp;with_reducible rfl
          rotate_left
          ·simp only [Act.put,sA_,sZ_,sS_,i64_w,i32_w]
           rfl
          refine pure_ (i:=8) (N:=some 40) (v:=?_) (a':=?_) #[true,true,true,true,true,true,true,true,true,true,true,false,false,false] rfl rfl (any_of HT_.out (by kernel_rfl)) (fun _ _ _ h=>h) (Or.inl ⟨by rfl,?_⟩) ?_ ?_;rotate_left
          ·intro w'
           go_simp;with_reducible rfl
          rotate_left
          ·simp only [Act.put,sA_,sZ_,sS_,i64_w,i32_w]
           rfl
          refine one_ (i:=11) (N:=some 43) #[true,true,true,true,true,true,true,true,true,true,true,true,false,false] rfl rfl (one_of HT_.out (by kernel_rfl)) (by decide) (fun K hK=>?_);refine goes_ Tryz.func36 (by kernel_rfl) rfl #[.slice A0_3 l0_3.length c0_3] (by rfl) rfl rfl qz17 ?_;(with_reducible refine (spec_TrmText.calls k _ _ l0_3 t499 _ ?side1 ?side2 A34.out).mono ?_)
          (case side1=>exact qz39)
          (case side2=>exact HC0_3.out)
          rintro e w40 ⟨rfl,hb⟩;refine ⟨_,rfl,?_⟩;have n_:=as2 (blk_below (blkp BK491.out) hb) (below_step qz28 hb);clear BK491 HB;obtain ⟨BK491,HB⟩:=n_;(try clear hb);(try clear hb2);(try clear hk);(try clear hi);refine hK.out _ _ ⟨(blk_cell BK491.out 0).trans rfl,(blk_cell BK491.out 1).trans rfl,(blk_cell BK491.out 2).trans rfl,(blk_cell BK491.out 3).trans rfl⟩ (fun hHeld=>?_);clear hK K;refine norm_ (a':=?_) ?_ ?_;rotate_left
          ·show Act.put _ (some 43) _=_
           simp only [Act.put,sA_,sZ_,sS_,i64_w,i32_w];rfl
          refine pure_ (i:=12) (N:=some 44) (v:=?_) (a':=?_) #[true,true,true,true,true,true,true,true,true,true,true,true,true,false] rfl rfl (any_of HT_.out (by kernel_rfl)) (fun _ _ _ h=>h) (Or.inl ⟨by rfl,?_⟩) ?_ ?_;rotate_left
          ·intro w'
           go_simp;with_reducible rfl
          rotate_left
          ·simp only [Act.put,sA_,sZ_,sS_,i64_w,i32_w]
           rfl
          refine pure_ (i:=13) (N:=some 2) (v:=?_) (a':=?_) #[true,true,true,true,true,true,true,true,true,true,true,true,true,true] rfl rfl (any_of HT_.out (by kernel_rfl)) (fun _ _ _ h=>h) (Or.inl ⟨by rfl,?_⟩) ?_ ?_;rotate_left
          ·intro w'
           go_simp;with_reducible rfl
          rotate_left
          ·simp only [Act.put,sA_,sZ_,sS_,i64_w,i32_w]
           rfl
          refine done_ (done_of HT_.out (by kernel_rfl)) ?_;(try go_wp2);go_ret;exact ⟨qz4,qz28⟩
         ·rw [if_neg c35] at H
          exact absurd H (by simp)
        ·rw [if_neg c33] at H
         exact absurd H (by simp)
       ·rw [if_neg c32] at H
        exact absurd H (by simp)
      ·rw [if_neg c30] at H
       exact absurd H (by simp)
     ·rw [if_neg c28] at H
      have c28b0:(a0_0 == 5)=false:=beq_eq_false_iff_ne.mpr c28;have c28b1:(a0_0 != 5)=true:=bne_iff_ne.mpr c28;replace H:=Option.bind_eq_some_iff.mp H;obtain ⟨t500,A410,H⟩:=H;(try dsimp only at H);have A41:=Aside0.mk A410;clear A410;obtain rfl:=Option.some.inj H;obtain ⟨hcz42_0,hcz42_1,hcz42_2,hcz42_3,hfz42_0,hfz42_1,hfz42_2,hfz42_3⟩:=blk4 BK491.out
      go_wp2_with (first|(go_at_call 36;(with_reducible refine (spec_TrmText.calls k _ _ l0_1 t500 _ ?side1 ?side2 A41.out).mono ?_);(case side1=>exact qz13);(case side2=>exact HC0_1.out);rintro e w43 ⟨rfl,hb⟩;have n_:=as2 (blk_below (blkp BK491.out) hb) (below_step qz28 hb);clear BK491 HB;obtain ⟨BK491,HB⟩:=n_;clear hb))
      go_ret;exact ⟨qz4,qz28⟩
 ·replace c7:=Bool.eq_false_iff.mpr c7
  subst c7;have H1:(some (⟨#[]⟩:ByteArray))=some r:=qz20;clear H;have H:=H1;clear H1;obtain rfl:=Option.some.inj H;go_wp2;go_ret;exact ⟨qz4,qz28⟩

end Go.Proofs.YtlhniagacegbeaaGreatDoor.P
