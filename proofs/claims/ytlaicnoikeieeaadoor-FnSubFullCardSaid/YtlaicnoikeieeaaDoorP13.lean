/- Contracts of functions of the program: each as a Lean function, and that its call does what that says; printed by cprint.py (this session) over print.py of the kit. Conditions: the hypotheses of each theorem. -/
import Derived.Test.YtlaicnoikeieeaaDoorVZ
import Derived.Test.YtlaicnoikeieeaaDoorP0
import Derived.Test.YtlaicnoikeieeaaDoorP4
import Derived.Test.YtlaicnoikeieeaaDoorP5
import Derived.Test.YtlaicnoikeieeaaDoorP6
import Derived.Test.YtlaicnoikeieeaaDoorP11
import Derived.Test.YtlaicnoikeieeaaDoorP12
namespace Go.Proofs.YtlaicnoikeieeaaDoor.P
open Go.RowKit Go.Proofs.YtlaicnoikeieeaaDoorW.PrintWords Go.Proofs.YtlaicnoikeieeaaDoorW.PrintLast Go.Proofs.YtlaicnoikeieeaaDoorW.PrintMore
attribute [local go_sem] max2_int min2_int max_two min_two max_three min_three max_four min_four   -- for this text's walks alone
set_option linter.unusedVariables false
set_option linter.unusedSimpArgs false

/-! ### spec_l1Arg: function 107 -/
mutual
def spec_l1Arg.j0:Nat→List (S46)→Int→Bool→Option ((List (S46)))
 | 0,_,_,_=>none
 | k+1,x0,x1,x23=>if x23=true then (some (([]:List (S46)))) else (spec_l1Arg.l0 k x0 x1 1 0)
def spec_l1Arg.l0:Nat→List (S46)→Int→Int→Int→Option ((List (S46)))
 | 0,_,_,_,_=>none
 | k+1,x0,x1,x5,x6=>if x6<x1 then ((spec_l1End.f k x0 x5).bind fun t280=>(spec_l1Arg.l0 k x0 x1 t280 (wrap64 (x6+1)))) else ((some (([]:List (S46)):List (S46))).bind fun y281=>((spec_l1End.f k x0 x5).bind fun t284=>(if 0≤x5 then (if x5≤t284 then (if t284≤(x0.length:Int) then ((some ((x0.take (t284:Int).toNat).drop (x5:Int).toNat:List (S46))).bind fun y285=>(if y281.length+y285.length<4398046511104 then (some (y281++y285)) else (none))) else (none)) else (none)) else (none))))
end
def spec_l1Arg.f (k:Nat) (l0:List (S46)) (a1:Int):Option ((List (S46))):=if 0<(l0.length:Int) then (if ((rd_T46 l0 0).f0)=3 then (if a1<0 then (spec_l1Arg.j0 k l0 a1 true) else (spec_l1Arg.j0 k l0 a1 (decide (a1≥((rd_T46 l0 0).f1))))) else (spec_l1Arg.j0 k l0 a1 true)) else (none)
set_option maxHeartbeats 8000000 in
set_option maxRecDepth 100000 in
theorem spec_l1Arg.calls (k:Nat) (A0:Option Addr) (c0:Nat) (l0:List (S46)) (a1:Int) (r:List (S46)) (w:World) (hr0:Kd.C k46 w A0 l0.length l0) (hc0:l0.length≤c0) (h:spec_l1Arg.f k l0 a1=some r) :
  Calls Tryd.prog 107 #[.slice A0 l0.length c0,.int .i64 a1] w fun e w'=>∃ v0_:Value,e = .returned (v0_)∧Kd.R k46 46 w' w.heap.size (fun _=>True) v0_ r∧Below w.heap.size w w':=by
 have HR0:=Aside0.mk hr0
 have HC0:=Aside0.mk hc0
 clear hr0 hc0
 have HB:=Aside0.mk (Below.refl w.heap.size w)
 have H:(if 0<(l0.length:Int) then (if ((rd_T46 l0 0).f0)=3 then (if a1<0 then (spec_l1Arg.j0 k l0 a1 true) else (spec_l1Arg.j0 k l0 a1 (decide (a1≥((rd_T46 l0 0).f1))))) else (spec_l1Arg.j0 k l0 a1 true)) else (none))=some r:=h
 clear h
 have HC3:=Aside0.mk H
 clear H
 go_enter Tryd.func107,Tryd.ntmps107
 go_upto_region 1 with (fail)
 go_cut [23] (fun v23 wc=>∃ (kq:Nat) (x23_2:Bool),v23 = .bool x23_2∧Aside0 (spec_l1Arg.j0 kq l0 a1 x23_2=some r)∧Aside0 (kq≤k)∧Aside0 (Below w.heap.size w wc))
 case first=>
  have H:=HC3.out
  clear HC3
  by_cases c4:0<(l0.length:Int)
  ·rw [if_pos c4] at H
   have c4b0:decide (0<(l0.length:Int))=true:=decide_eq_true c4
   have c4b1:decide (0<l0.length)=true:=decide_eq_true (by omega)
   clear c4
   (first|rw [c4b0]|(simp only [i64_w,i32_w];rw [c4b0])|skip)
   by_cases c5:((rd_T46 l0 0).f0)=3
   ·rw [if_pos c5] at H
    have c5b0:(((rd_T46 l0 0).f0) == 3)=true:=beq_iff_eq.mpr c5
    have c5b1:(((rd_T46 l0 0).f0) != 3)=false:=bne_eq_false_iff_eq.mpr c5
    clear c5
    by_cases c6:a1<0
    ·rw [if_pos c6] at H
     have c6b0:decide (a1<0)=true:=decide_eq_true c6
     clear c6
     have H':=Aside0.mk H
     clear H
     have p275:0≤(0:Int):=(by omega)
     have q275:0<(l0.length:Int):=of_decide_eq_true qz6
     obtain ⟨ad275,e275,hx275_0,hx275_1,hx275_2⟩:=at_T46 HR0.out 0 p275 q275
     cases e275
     have qi275:(0<l0.length)=True:=eq_true (by omega)
     (try rw [show ((0:Int)).toNat=0 from rfl] at hx275_0)
     (try rw [show 0 * 3=0 from rfl] at hx275_0)
     (try rw [Addr.add_zero'] at hx275_0)
     (try rw [show ((0:Int)).toNat=0 from rfl] at hx275_1)
     (try rw [show 0 * 3=0 from rfl] at hx275_1)
     (try rw [Addr.add_zero'] at hx275_1)
     (try rw [show ((0:Int)).toNat=0 from rfl] at hx275_2)
     (try rw [show 0 * 3=0 from rfl] at hx275_2)
     (try rw [Addr.add_zero'] at hx275_2)
     replace hx275_0:=(HB.out.cell (World.block_lt_of_cell? w _ hx275_0)).trans hx275_0
     replace hx275_1:=(HB.out.cell (World.block_lt_of_cell? w _ hx275_1)).trans hx275_1
     replace hx275_2:=(HB.out.cell (World.block_lt_of_cell? w _ hx275_2)).trans hx275_2
     replace p275:=eq_true p275
     replace q275:=eq_true q275
     go_wp2
     go_meet
     case rel=>exact ⟨_,(true),qz9,H',⟨qz50⟩,⟨qz5⟩⟩
    ·rw [if_neg c6] at H
     have c6b0:decide (a1<0)=false:=decide_eq_false c6
     clear c6
     have H':=Aside0.mk H
     clear H
     have p275:0≤(0:Int):=(by omega)
     have q275:0<(l0.length:Int):=of_decide_eq_true qz6
     obtain ⟨ad275,e275,hx275_0,hx275_1,hx275_2⟩:=at_T46 HR0.out 0 p275 q275
     cases e275
     have qi275:(0<l0.length)=True:=eq_true (by omega)
     (try rw [show ((0:Int)).toNat=0 from rfl] at hx275_0)
     (try rw [show 0 * 3=0 from rfl] at hx275_0)
     (try rw [Addr.add_zero'] at hx275_0)
     (try rw [show ((0:Int)).toNat=0 from rfl] at hx275_1)
     (try rw [show 0 * 3=0 from rfl] at hx275_1)
     (try rw [Addr.add_zero'] at hx275_1)
     (try rw [show ((0:Int)).toNat=0 from rfl] at hx275_2)
     (try rw [show 0 * 3=0 from rfl] at hx275_2)
     (try rw [Addr.add_zero'] at hx275_2)
     replace hx275_0:=(HB.out.cell (World.block_lt_of_cell? w _ hx275_0)).trans hx275_0
     replace hx275_1:=(HB.out.cell (World.block_lt_of_cell? w _ hx275_1)).trans hx275_1
     replace hx275_2:=(HB.out.cell (World.block_lt_of_cell? w _ hx275_2)).trans hx275_2
     replace p275:=eq_true p275
     replace q275:=eq_true q275
     have p276:0≤(0:Int):=(by omega)
     have q276:0<(l0.length:Int):=of_decide_eq_true qz6
     obtain ⟨ad276,e276,hx276_0,hx276_1,hx276_2⟩:=at_T46 HR0.out 0 p276 q276
     obtain rfl:ad275=ad276:=(by injection e276)
     have qi276:(0<l0.length)=True:=eq_true (by omega)
     (try rw [show ((0:Int)).toNat=0 from rfl] at hx276_0)
     (try rw [show 0 * 3=0 from rfl] at hx276_0)
     (try rw [Addr.add_zero'] at hx276_0)
     (try rw [show ((0:Int)).toNat=0 from rfl] at hx276_1)
     (try rw [show 0 * 3=0 from rfl] at hx276_1)
     (try rw [Addr.add_zero'] at hx276_1)
     (try rw [show ((0:Int)).toNat=0 from rfl] at hx276_2)
     (try rw [show 0 * 3=0 from rfl] at hx276_2)
     (try rw [Addr.add_zero'] at hx276_2)
     replace hx276_0:=(HB.out.cell (World.block_lt_of_cell? w _ hx276_0)).trans hx276_0
     replace hx276_1:=(HB.out.cell (World.block_lt_of_cell? w _ hx276_1)).trans hx276_1
     replace hx276_2:=(HB.out.cell (World.block_lt_of_cell? w _ hx276_2)).trans hx276_2
     replace p276:=eq_true p276
     replace q276:=eq_true q276
     go_wp2
     go_meet
     case rel=>exact ⟨_,(decide (a1≥((rd_T46 l0 0).f1))),qz9,H',⟨qz50⟩,⟨qz5⟩⟩
   ·rw [if_neg c5] at H
    have c5b0:(((rd_T46 l0 0).f0) == 3)=false:=beq_eq_false_iff_ne.mpr c5
    have c5b1:(((rd_T46 l0 0).f0) != 3)=true:=bne_iff_ne.mpr c5
    have H':=Aside0.mk H
    clear H
    have p275:0≤(0:Int):=(by omega)
    have q275:0<(l0.length:Int):=of_decide_eq_true qz6
    obtain ⟨ad275,e275,hx275_0,hx275_1,hx275_2⟩:=at_T46 HR0.out 0 p275 q275
    cases e275
    have qi275:(0<l0.length)=True:=eq_true (by omega)
    (try rw [show ((0:Int)).toNat=0 from rfl] at hx275_0)
    (try rw [show 0 * 3=0 from rfl] at hx275_0)
    (try rw [Addr.add_zero'] at hx275_0)
    (try rw [show ((0:Int)).toNat=0 from rfl] at hx275_1)
    (try rw [show 0 * 3=0 from rfl] at hx275_1)
    (try rw [Addr.add_zero'] at hx275_1)
    (try rw [show ((0:Int)).toNat=0 from rfl] at hx275_2)
    (try rw [show 0 * 3=0 from rfl] at hx275_2)
    (try rw [Addr.add_zero'] at hx275_2)
    replace hx275_0:=(HB.out.cell (World.block_lt_of_cell? w _ hx275_0)).trans hx275_0
    replace hx275_1:=(HB.out.cell (World.block_lt_of_cell? w _ hx275_1)).trans hx275_1
    replace hx275_2:=(HB.out.cell (World.block_lt_of_cell? w _ hx275_2)).trans hx275_2
    replace p275:=eq_true p275
    replace q275:=eq_true q275
    go_wp2
    go_meet
    case rel=>exact ⟨_,(true),qz9,H',⟨qz50⟩,⟨qz5⟩⟩
  ·rw [if_neg c4] at H
   exact absurd H (by simp)
 case rest=>
  clear HC3
  try clear c1
  try clear p2
  try clear q2
  try clear hx2
  try clear qi2
  try clear c4
  try clear c4b0
  try clear c4b1
  try clear c5
  try clear c5b0
  try clear c5b1
  try clear c6
  try clear c6b0
  try clear hx275_0
  try clear hx275_1
  try clear hx275_2
  try clear hx276_0
  try clear hx276_1
  try clear hx276_2
  try clear p275
  try clear p276
  try clear q275
  try clear q276
  obtain ⟨kq,x23_2,rfl,HA,HJ2,HB⟩:=hcut
  cases kq with
  | zero=>exact absurd HA.out (by simp [spec_l1Arg.j0])
  | succ kj2=>
   have H:=HA.out
   clear HA
   simp only [spec_l1Arg.j0] at H
   by_cases c7:x23_2=true
   ·subst c7
    have H1:(some (([]:List (S46))))=some r:=qz34
    clear H
    have H:=H1
    clear H1
    obtain ⟨y277,hy277⟩:∃ y_:List (S46),y_=(([]:List (S46))):=⟨_,rfl⟩
    replace H:(some y277)=some r:=by first|(rw [hy277];exact H)|exact H
    have Ny277:=Aside0.mk hy277
    clear hy277
    obtain rfl:=Option.some.inj H
    go_wp2_with (first|((with_reducible refine gate_dst (N:=24) rfl ?_);refine Kd.R_lit k46 _ 46 ?hg (N:=24) ?hd (xs:=([]:List (S46))) (inner:=[]) (ok:=fun _=>True) (okp:=fun _=>True) ?hr ?hp (fun _ hk=>hk) trivial (Below.refl _ _) (Nat.le_refl _) (by simp) ?_;(case hd=>rfl);(case hg=>rfl);(case hr=>first|(go_simp;done)|(go_simp;rfl));(case hp=>exact (Reps.none _ _));intro v278 w8 ho9 hb hg_ hnew_;clear hg_ hnew_;(first|rw [← Ny277.out] at ho9|(simp only [Int.reduceToNat] at ho9;rw [← Ny277.out] at ho9));have n0_:=Aside0.mk (Kd.R_lower ho9 (below_size qz4));have n1_:=Aside0.mk (below_step qz4 hb);clear HB;have HO279:=n0_;have HB:=n1_;clear n0_ n1_ hb ho9))
    go_ret
    exact ⟨_,qz7,by (with_reducible repeat (first|apply Kd.R_alloc|apply Kd.R_drewN|apply Kd.R_drew));exact HO279.out,qz5⟩
   ·replace c7:=Bool.eq_false_iff.mpr c7
    subst c7
    have H1:(spec_l1Arg.l0 kj2 l0 a1 1 0)=some r:=qz21
    clear H
    have H:=H1
    clear H1
    have H':=Aside0.mk H
    clear H
    go_wp2
    go_loopg [5,6] kj2 (fun kq v5 v6 w'=>∃ (x5_2:Int) (x6_2:Int),v5 = .int .i64 x5_2∧v6 = .int .i64 x6_2∧Aside0 (spec_l1Arg.l0 kq l0 a1 x5_2 x6_2=some r)∧Aside0 (kq≤kj2)∧Aside0 (Below w.heap.size w w'))
    case atStart=>exact ⟨(1),(0),qz9,qz9,H',⟨Nat.le_refl _⟩,⟨qz5⟩⟩
    case round=>
     clear H'
     try clear c1
     try clear p2
     try clear q2
     try clear hx2
     try clear qi2
     try clear c4
     try clear c4b0
     try clear c4b1
     try clear c5
     try clear c5b0
     try clear c5b1
     try clear c6
     try clear c6b0
     try clear c7
     try clear hx275_0
     try clear hx275_1
     try clear hx275_2
     try clear hx276_0
     try clear hx276_1
     try clear hx276_2
     try clear p2
     try clear p275
     try clear p276
     try clear q2
     try clear q275
     try clear q276
     obtain ⟨x5_2,x6_2,rfl,rfl,HA,HK2,HB⟩:=hrel
     cases gk with
     | zero=>exact absurd HA.out (by simp [spec_l1Arg.l0])
     | succ k2=>
      have H:=HA.out
      clear HA
      simp only [spec_l1Arg.l0] at H
      by_cases c10:x6_2<a1
      ·rw [if_pos c10] at H
       have c10b0:decide (x6_2<a1)=true:=decide_eq_true c10
       clear c10
       replace H:=Option.bind_eq_some_iff.mp H
       obtain ⟨t280,A110,H⟩:=H
       try dsimp only at H
       have A11:=Aside0.mk A110
       clear A110
       have H':=Aside0.mk H
       clear H
       go_wp2_with (first|(go_at_call 68;(with_reducible refine (spec_l1End.calls k2 _ _ l0 x5_2 t280 _ ?side1 ?side2 A11.out).mono ?_);(case side1=>exact qz36);(case side2=>exact HC0.out);rintro e w' ⟨rfl,⟨nd,rfl⟩⟩))
       go_roundg k2
       case measure=>have:=HJ2.out;have:=HK2.out;omega
       case rel=>exact ⟨(t280),(wrap64 (x6_2+1)),qz9,qz9,H',⟨by have:=HJ2.out;have:=HK2.out;omega⟩,⟨qz5⟩⟩
      ·rw [if_neg c10] at H
       have c10b0:decide (x6_2<a1)=false:=decide_eq_false c10
       clear c10
       obtain ⟨y281,hy281⟩:∃ y_:List (S46),y_=(([]:List (S46))):=⟨_,rfl⟩
       replace H:((spec_l1End.f k2 l0 x5_2).bind fun t284=>(if 0≤x5_2 then (if x5_2≤t284 then (if t284≤(l0.length:Int) then ((some ((l0.take (t284:Int).toNat).drop (x5_2:Int).toNat:List (S46))).bind fun y285=>(if y281.length+y285.length<4398046511104 then (some (y281++y285)) else (none))) else (none)) else (none)) else (none)))=some r:=by first|(rw [hy281];exact H)|exact H
       have Ny281:=Aside0.mk hy281
       clear hy281
       replace H:=Option.bind_eq_some_iff.mp H
       obtain ⟨t284,A120,H⟩:=H
       try dsimp only at H
       have A12:=Aside0.mk A120
       clear A120
       by_cases c13:0≤x5_2
       ·rw [if_pos c13] at H
        have c13b0:=eq_true c13
        have c13b1:decide (0≤x5_2)=true:=decide_eq_true c13
        clear c13
        by_cases c14:x5_2≤t284
        ·rw [if_pos c14] at H
         have c14b0:=eq_true c14
         have c14b1:decide (x5_2≤t284)=true:=decide_eq_true c14
         clear c14
         by_cases c15:t284≤(l0.length:Int)
         ·rw [if_pos c15] at H
          have c15b0:=eq_true c15
          have c15b1:decide (t284≤(l0.length:Int))=true:=decide_eq_true c15
          clear c15
          obtain ⟨y285,hy285⟩:∃ y_:List (S46),y_=((l0.take (t284:Int).toNat).drop (x5_2:Int).toNat):=⟨_,rfl⟩
          replace H:(if y281.length+y285.length<4398046511104 then (some (y281++y285)) else (none))=some r:=by first|(rw [hy285];exact H)|exact H
          have Ny285:=Aside0.mk hy285
          clear hy285
          by_cases c16:y281.length+y285.length<4398046511104
          ·rw [if_pos c16] at H
           have LMc16:=Aside0.mk c16
           clear c16
           obtain ⟨y289,hy289⟩:∃ y_:List (S46),y_=(y281++y285):=⟨_,rfl⟩
           replace H:(some y289)=some r:=by first|(rw [hy289];exact H)|exact H
           have Ny289:=Aside0.mk hy289
           clear hy289
           obtain rfl:=Option.some.inj H
           go_wp2_with (first|((with_reducible refine gate_dst (N:=33) rfl ?_);refine Kd.R_lit k46 _ 46 ?hg (N:=33) ?hd (xs:=([]:List (S46))) (inner:=[]) (ok:=fun _=>True) (okp:=fun _=>True) ?hr ?hp (fun _ hk=>hk) trivial (Below.refl _ _) (Nat.le_refl _) (by simp) ?_;(case hd=>rfl);(case hg=>rfl);(case hr=>first|(go_simp;done)|(go_simp;rfl));(case hp=>exact (Reps.none _ _));intro v282 w17 ho18 hb hg_ hnew_;clear hg_ hnew_;(first|rw [← Ny281.out] at ho18|(simp only [Int.reduceToNat] at ho18;rw [← Ny281.out] at ho18));have n0_:=Aside0.mk (Kd.R_lower ho18 (below_size qz4));have n1_:=Aside0.mk (below_step qz4 hb);clear HB;have HO283:=n0_;have HB:=n1_;clear n0_ n1_ hb ho18)|(go_at_call 68;(with_reducible refine (spec_l1End.calls k2 _ _ l0 x5_2 t284 _ ?side1 ?side2 A12.out).mono ?_);(case side1=>exact qz36);(case side2=>exact HC0.out);rintro e w' ⟨rfl,⟨nd,rfl⟩⟩;have q19:(t284:Int)≤((l0.length:Int):Int):=of_decide_eq_true qz6;obtain ⟨i019,hi019,_,hsz19,_⟩:=info_parts info46;have hroom19:l0.length≤c0:=HC0.out;have hC19:Kd.C k46 _ A0 l0.length l0:=HR0.out;have ql19:(x5_2:Int)≤(t284:Int):=of_decide_eq_true qz6;have q019:(0:Int)≤(x5_2:Int):=of_decide_eq_true qz6;have hcut19:=cut_mid (P:=Tryd.prog) 26 46 .i64 .i64 Tryd.underlying26 hi019 3 hsz19 A0 l0.length c0 x5_2 t284 q019 ql19 q19 hroom19;have hr19:=Kd.C_mid (lo:=(x5_2:Int).toNat) (hi:=(t284:Int).toNat) (c:=c0) hC19 (by omega) (by omega) hroom19;obtain ⟨A19,hA19⟩:∃ A1,A1=(if c0=(x5_2:Int).toNat then A0 else (A0:Option Addr).map (·.add ((x5_2:Int).toNat * 3))):=⟨_,rfl⟩;obtain ⟨c19,hc19⟩:∃ c1,c1=c0 - (x5_2:Int).toNat:=⟨_,rfl⟩;have hy19:y285.length=(t284:Int).toNat - (x5_2:Int).toNat:=(by rw [Ny285.out,List.length_drop,List.length_take] <;> omega);rw [show ((l0).take (t284:Int).toNat).drop (x5_2:Int).toNat=y285 from Ny285.out.symm] at hr19;replace hr19:Kd.C k46 _ A19 y285.length y285:=(by rw [hA19];exact hr19);rw [← hy19,← hA19,← hc19] at hcut19;have HR288:=Aside0.mk hr19;have HC288:=Aside0.mk (show y285.length≤c19 from by rw [hy19,hc19];exact Nat.sub_le_sub_right (Nat.le_trans (by omega) hroom19) _);clear hr19 hC19 hroom19 hi019 hsz19 hc19;have KY19:=Aside0.mk hy19;have KA19:=Aside0.mk hA19;clear hy19 hA19;replace q19:=eq_true q19)|((with_reducible refine gate_builtin (b:=.append) (xs:=#[.tmp 33,.tmp 39]) rfl ?_);at_builtin;refine Kd.R_append_rows k46 (w0:=w) w.heap.size rfl (.tmp 33) (.tmp 39) 26 46 (.agg #[(.int .i64 0),(.int .i64 0),(.string ⟨#[]⟩)]) 32 rfl Tryd.underlying26 info46 rfl (by decide) (by omega) v282 y281 y285 _ _ _ (fun _=>True) (fun _=>False) rfl rfl ?aO ?aR (fun _ _ h=>h) (fun _ h=>h.elim) ?aF ?aB ?aS ?aL ?_;(case aR=>repeat (first|exact (Kd.C_below HR288.out qz4)|(with_reducible refine Kd.C_alloc ?_ _)|(with_reducible refine Kd.C_drewN ?_ _)|(with_reducible refine Kd.C_drew ?_)));(case aB=>exact qz4);(case aF=>exact (fun _ _=>trivial));(case aO=>(with_reducible repeat (first|apply Kd.R_alloc|apply Kd.R_drewN|apply Kd.R_drew));exact HO283.out);(case aS=>exact (below_size qz4));(case aL=>have:=LMc16.out;omega);intro v290 w20 ho hb hg hat;rw [← Ny289.out] at ho;have n0_:=Aside0.mk (hb);have n1_:=Aside0.mk (ho);clear HB HO283;have HB:=n0_;have HO291:=n1_;clear n0_ n1_ ho hb hg hat))
           go_ret
           exact ⟨_,qz7,by (with_reducible repeat (first|apply Kd.R_alloc|apply Kd.R_drewN|apply Kd.R_drew));exact HO291.out,qz5⟩
          ·rw [if_neg c16] at H
           exact absurd H (by simp)
         ·rw [if_neg c15] at H
          exact absurd H (by simp)
        ·rw [if_neg c14] at H
         exact absurd H (by simp)
       ·rw [if_neg c13] at H
        exact absurd H (by simp)

/-! ### spec_l2Bind: function 106 -/
/-- what l2Bind answers: none, if what is bound leads to the variable -/
def bind2F (K:Nat) (s:List Cat.Bind) (v:Int) (t:List Cat.Cell):Option (Option (List Cat.Bind)):=
 if s.length<1000000000∧t.length<1000000000 then (spec_l2Leads.f K s t).bind fun ls=>(spec_l1Has.f K ls v).bind fun q=>some (if q=true then none else some (s++[⟨v,t⟩])) else none
/-- what l2Bind and l2Unify leave -/
def BPost (base:Nat) (W:World) (v:Value) (q:Option (List Cat.Bind)) (e:Ending) (w':World):Prop:=
 ∃ v1,e = .returned (.tuple #[v1,.bool q.isSome])∧(∀ s',q=some s'→Kd.S k30 30 w' base (fun _=>True) v1 s')∧W.grownBy w' v.ownBlock∧(v1.ownBlock=v.ownBlock∨∃ g,v1.ownBlock=some g∧W.heap.size≤g)
theorem below_grownS {w w':World} (h:Below w.heap.size w w') (g:Option Nat):w.grownBy w' g:=⟨h.os,h.tape,h.output,h.size,fun k hk _=>h.block k hk⟩
theorem grown_then {a b c:World} {g:Option Nat} (h:a.grownBy b g) (k:b.grownBy c g):a.grownBy c g:=
 ⟨k.os.trans h.os,k.tape.trans h.tape,k.output.trans h.output,Nat.le_trans h.size k.size,fun i hi hg=>(k.block i (Nat.lt_of_lt_of_le hi h.size) hg).trans (h.block i hi hg)⟩
theorem below_drawn {w w':World} (h:Drawn0 w w'):Below w.heap.size w w':=by
 obtain ⟨n,rfl⟩:=h
 exact pw_below_drewN (Below.refl _ _) n
set_option maxHeartbeats 8000000 in
set_option maxRecDepth 100000 in
theorem spec_l2Bind.any (base:Nat) (v:Value) (s:List Cat.Bind) (W:World) (K:Nat) (b:Int) (t:List Cat.Cell) (A:Option Addr) (c:Nat) (q:Option (List Cat.Bind)) (hS:Kd.S k30 30 W base (fun _=>True) v s) (hbase:base≤W.heap.size)
  (hC:Kd.C k46 W A t.length t) (hl:t.length≤c) (h:bind2F K s b t=some q):Calls Tryd.prog 106 #[v,.int .i64 b,.slice A t.length c] W (BPost base W v q):=by
 unfold bind2F at h
 by_cases hn:s.length<1000000000∧t.length<1000000000
 case neg=>rw [if_neg hn] at h;cases h
 rw [if_pos hn] at h
 obtain ⟨ls,h1,h2⟩:=Option.bind_eq_some_iff.1 h
 obtain ⟨q1,h3,h4⟩:=Option.bind_eq_some_iff.1 h2
 obtain rfl:=Option.some.inj h4
 obtain ⟨Av,cv,ev⟩:=Kd.S_slice hS
 subst ev
 have HS:=Aside0.mk hS
 have HC:=Aside0.mk hC
 have HL:=Aside0.mk hl
 have H1:=Aside0.mk h1
 have H3:=Aside0.mk h3
 have HN:=Aside0.mk hn
 have HBS:=Aside0.mk hbase
 have HSC:=Aside0.mk (Kd.S_reads' hS)
 have HLT:=Aside0.mk (show ∀ k,(Value.slice Av s.length cv).ownBlock=some k→k<W.heap.size from Kd.S_lt hS)
 clear h h1 h2 h3 h4 hS hC hl hn hbase
 cases q1 with
 | true=>
  go_enter Tryd.func106,Tryd.ntmps106
  go_wp2_with (first
   | (go_at_call 59;(with_reducible refine (spec_l2Leads.calls K Av cv s A c t ls W HSC.out.2.2 HSC.out.2.1 HC.out HL.out H1.out).mono ?_);rintro e w1 ⟨v1,rfl,ho1,hb1⟩;obtain ⟨A1,c1,rfl⟩:=Kd.R_slice ho1;have HO1:=Aside0.mk (Kd.R_reads' ho1);have HB1:=Aside0.mk hb1;clear ho1 hb1)
   | (go_at_call 58;(with_reducible refine (spec_l1Has.calls K A1 c1 ls b true _ HO1.out.2.2 HO1.out.2.1 H3.out).mono ?_);rintro e w2 ⟨rfl,hd2⟩;have HB2:=Aside0.mk (HB1.out.trans ((below_drawn hd2).mono HB1.out.size));clear hd2))
  go_ret2
  exact ⟨_,rfl,(fun s' e=>by cases e),below_grownS (below_alloc HB2.out _) _,.inr ⟨_,rfl,HB2.out.size⟩⟩
 | false=>
  go_enter Tryd.func106,Tryd.ntmps106
  go_wp2_with (first
   | (go_at_call 59;(with_reducible refine (spec_l2Leads.calls K Av cv s A c t ls W HSC.out.2.2 HSC.out.2.1 HC.out HL.out H1.out).mono ?_);rintro e w1 ⟨v1,rfl,ho1,hb1⟩;obtain ⟨A1,c1,rfl⟩:=Kd.R_slice ho1;have HO1:=Aside0.mk (Kd.R_reads' ho1);have HB1:=Aside0.mk hb1;clear ho1 hb1)
   | (go_at_call 58;(with_reducible refine (spec_l1Has.calls K A1 c1 ls b false _ HO1.out.2.2 HO1.out.2.1 H3.out).mono ?_);rintro e w2 ⟨rfl,hd2⟩;have HB2:=Aside0.mk (HB1.out.trans ((below_drawn hd2).mono HB1.out.size));clear hd2)
   | ((with_reducible refine gate_dst (N:=16) rfl ?_);refine Kd.R_lit k46 (w0:=W) W.heap.size 46 ?hg (N:=16) ?hd (xs:=([]:List (S46))) (inner:=[]) (ok:=fun k=>W.heap.size≤k) (okp:=fun k=>W.heap.size≤k) ?hr ?hp (fun _ hk=>hk) HB2.out.size HB2.out HB2.out.size (by simp) ?_;(case hd=>rfl);(case hg=>rfl);(case hr=>first|(go_simp;done)|(go_simp;rfl));(case hp=>exact (Reps.none _ _));intro v3 w3 ho hb hg_ hnew_;clear hg_ hnew_;have HO3:=Aside0.mk ho;have HB3:=Aside0.mk hb;clear ho hb)
   | ((with_reducible refine gate_builtin (b:=.append) (xs:=#[.tmp 16,.tmp 17]) rfl ?_);at_builtin;refine Kd.R_append_rows k46 (w0:=W) W.heap.size rfl (.tmp 16) (.tmp 17) 26 46 (.agg #[(.int .i64 0),(.int .i64 0),(.string ⟨#[]⟩)]) 32 rfl Tryd.underlying26 info46 rfl (by decide) (by omega) v3 [] t _ _ _ (fun k=>W.heap.size≤k) (fun _=>False) rfl rfl ?aO ?aR (fun _ _ h=>h) (fun _ h=>h.elim) ?aF ?aB ?aS ?aL ?_;(case aR=>exact Kd.C_below HC.out HB3.out);(case aB=>exact HB3.out);(case aF=>exact fun k hk=>Nat.le_trans (HB3.out.size) hk);(case aO=>exact HO3.out);(case aS=>exact HB3.out.size);(case aL=>have:=HN.out.2;simp only [List.length_nil];omega);intro v4 w4 ho hb hg hat;have HO4:=Aside0.mk ho;have HB4:=Aside0.mk hb;obtain ⟨A4,c4,ev4⟩:=Kd.R_slice HO4.out;subst ev4;clear ho hb hg hat)
   | ((with_reducible refine gate_builtin (b:=.append) (xs:=#[.tmp 14,.tmp 20]) rfl ?_);at_builtin;refine Kd.S_append k30 (w0:=W) base rfl (.tmp 14) (.tmp 20) 23 30 (.agg #[(.int .i64 0),(.slice none 0 0)]) 32 rfl Tryd.underlying23 info30 rfl (by decide) (by omega) (.slice Av s.length cv) s ⟨b,t⟩ [.int .i64 b,.slice A4 t.length c4] (fun _=>True) (fun k=>W.heap.size≤k) rfl qz71 ?aP ?aK (fun _ _=>trivial) ?aO ?aB ?aS ?aL ?_;(case aP=>exact k30_mkM _ _ _ ⟨b,t⟩ (Kd.R_lower HO4.out HBS.out));(case aK=>exact fun k hk=>⟨trivial,fun e=>by have:=HLT.out k e.symm;omega⟩);(case aO=>exact Kd.S_mono (Kd.S_below (Kd.S_bound HS.out) HB4.out) (fun k hk=>⟨trivial,by have:=hk.2.2.1;omega⟩));(case aB=>exact HB4.out.mono HBS.out);(case aS=>exact Nat.le_trans HBS.out HB4.out.size);(case aL=>have:=HN.out.1;omega);intro v5 w5 ho5 hb5 hg5 hat5;have HO5:=Aside0.mk ho5;have HG5:=Aside0.mk (grown_then (below_grownS HB4.out _) hg5);have HA5:=Aside0.mk hat5;clear ho5 hb5 hg5 hat5))
  go_ret2
  refine ⟨v5,rfl,(fun s' e=>by cases e;exact HO5.out),HG5.out,?_⟩
  rcases HA5.out with h|⟨g,h1,h2⟩
  ·exact .inl h
  ·exact .inr ⟨g,h1,Nat.le_trans HB4.out.size h2⟩

/-! ### spec_l2Unify: function 99 -/
/-- arguments put on the two stacks, the last ones first -/
def pushF (K:Nat) (x y:List Cat.Cell):Nat→List (List Cat.Cell)→List (List Cat.Cell)→Option (List (List Cat.Cell) × List (List Cat.Cell))
 | 0,L,R=>some (L,R)
 | n+1,L,R=>(spec_l1Arg.f K x (n:Int)).bind fun p=>(spec_l1Arg.f K y (n:Int)).bind fun q=>if L.length<1000000000∧R.length<1000000000 then pushF K x y n (L++[p]) (R++[q]) else none
/-- what l2Unify answers, of its two stacks -/
def l2uniF (K:Nat):Nat→List Cat.Bind→List (List Cat.Cell)→List (List Cat.Cell)→Option (Option (List Cat.Bind))
 | 0,_,_,_=>none
 | k+1,s,L,R=>if L=[] then some (some s) else if L.length=R.length∧L.length<1000000000 then
   (spec_l2Walk.f K s (L.getLastD [])).bind fun x=>(spec_l2Walk.f K s (R.getLastD [])).bind fun y=>match x,y with
   | c :: l,d :: m=>if c.f0=1∧d=c then l2uniF K k s L.dropLast R.dropLast
     else if c.f0=1 then (bind2F K s c.f1 (d :: m)).bind fun q=>match q with
      | none=>some none
      | some s'=>l2uniF K k s' L.dropLast R.dropLast
     else if d.f0=1 then (bind2F K s d.f1 (c :: l)).bind fun q=>match q with
      | none=>some none
      | some s'=>l2uniF K k s' L.dropLast R.dropLast
     else if c≠d then some none
     else if -1000000≤c.f1∧c.f1≤1000000 then (pushF K (c :: l) (d :: m) (if c.f0=3 then c.f1.toNat else 0) L.dropLast R.dropLast).bind fun p=>l2uniF K k s p.1 p.2
     else none
   | _,_=>none
  else none
/-- what lies in memory: the bindings, the two stacks -/
structure Mem2 (base B:Nat) (wr:World) (u0 u8 u9:Value) (s:List Cat.Bind) (L R:List (List Cat.Cell)):Prop where
 mS:Kd.S k30 30 wr base (fun _=>True) u0 s
 mb:base≤wr.heap.size
 mB:B≤wr.heap.size
 mL:Kd.N (Kd.slice 46 k46) 26 wr B (fun k=>some k≠u0.ownBlock∧some k≠u9.ownBlock) u8 L
 mR:Kd.N (Kd.slice 46 k46) 26 wr B (fun k=>some k≠u0.ownBlock∧some k≠u8.ownBlock) u9 R
section
variable {base B : Nat} {wr w' : World} {u0 u8 u9 u' : Value} {s s' : List Cat.Bind} {L R L' : List (List Cat.Cell)}
theorem ne_at {u u1:Value} {k:Nat} {w:World} (h:some k≠u.ownBlock) (hk:k<w.heap.size) (hat:u1.ownBlock=u.ownBlock∨∃ g,u1.ownBlock=some g∧w.heap.size≤g):some k≠u1.ownBlock:=by
 rcases hat with e|⟨g,e,hg⟩
 ·rw [e];exact h
 ·rw [e];intro e;injection e with e;omega
theorem Mem2.below (h:Mem2 base B wr u0 u8 u9 s L R) (hb:Below wr.heap.size wr w'):Mem2 base B w' u0 u8 u9 s L R:=
 ⟨Kd.S_below h.mS hb,Nat.le_trans h.mb hb.size,Nat.le_trans h.mB hb.size,Kd.N_below h.mL hb,Kd.N_below h.mR hb⟩
theorem Mem2.bind (h:Mem2 base B wr u0 u8 u9 s L R) (hS:Kd.S k30 30 w' base (fun _=>True) u' s') (hg:wr.grownBy w' u0.ownBlock) (hat:u'.ownBlock=u0.ownBlock∨∃ g,u'.ownBlock=some g∧wr.heap.size≤g):Mem2 base B w' u' u8 u9 s' L R:=
 ⟨hS,Nat.le_trans h.mb hg.size,Nat.le_trans h.mB hg.size,Kd.N_mono (Kd.N_grown (Kd.N_bound h.mL) hg (fun k hk=>hk.1.1)) (fun k hk=>⟨ne_at hk.1.1 hk.2 hat,hk.1.2⟩),Kd.N_mono (Kd.N_grown (Kd.N_bound h.mR) hg (fun k hk=>hk.1.1)) (fun k hk=>⟨ne_at hk.1.1 hk.2 hat,hk.1.2⟩)⟩
theorem Mem2.pushL (h:Mem2 base B wr u0 u8 u9 s L R) (hN:Kd.N (Kd.slice 46 k46) 26 w' B (fun k=>some k≠u0.ownBlock∧some k≠u9.ownBlock) u' L') (hg:wr.grownBy w' u8.ownBlock) (hat:u'.ownBlock=u8.ownBlock∨∃ g,u'.ownBlock=some g∧wr.heap.size≤g):Mem2 base B w' u0 u' u9 s L' R:=
 ⟨Kd.S_over' h.mS (Kd.N_typed h.mL) (by decide) hg,Nat.le_trans h.mb hg.size,Nat.le_trans h.mB hg.size,hN,Kd.N_mono (Kd.N_grown (Kd.N_bound h.mR) hg (fun k hk=>hk.1.2)) (fun k hk=>⟨hk.1.1,ne_at hk.1.2 hk.2 hat⟩)⟩
theorem Mem2.pushR (h:Mem2 base B wr u0 u8 u9 s L R) (hN:Kd.N (Kd.slice 46 k46) 26 w' B (fun k=>some k≠u0.ownBlock∧some k≠u8.ownBlock) u' L') (hg:wr.grownBy w' u9.ownBlock) (hat:u'.ownBlock=u9.ownBlock∨∃ g,u'.ownBlock=some g∧wr.heap.size≤g):Mem2 base B w' u0 u8 u' s L L':=
 ⟨Kd.S_over' h.mS (Kd.N_typed h.mR) (by decide) hg,Nat.le_trans h.mb hg.size,Nat.le_trans h.mB hg.size,Kd.N_mono (Kd.N_grown (Kd.N_bound h.mL) hg (fun k hk=>hk.1.2)) (fun k hk=>⟨hk.1.1,ne_at hk.1.2 hk.2 hat⟩),hN⟩
/-- a term that is read while the stacks grow -/
def VX (wr:World) (u8 u9:Value) (A:Option Addr) (x:List Cat.Cell):Prop:=Kd.F k46 wr (fun k=>some k≠u8.ownBlock∧some k≠u9.ownBlock) A x.length x
theorem VX.below {A:Option Addr} {x:List Cat.Cell} (h:VX wr u8 u9 A x) (hb:Below wr.heap.size wr w'):VX w' u8 u9 A x:=Kd.F_below h hb
theorem VX.now {A:Option Addr} {x:List Cat.Cell} (h:VX wr u8 u9 A x):Kd.C k46 wr A x.length x:=Kd.F_now h
theorem VX.pushL {A:Option Addr} {x:List Cat.Cell} (h:VX wr u8 u9 A x) (hg:wr.grownBy w' u8.ownBlock) (hat:u'.ownBlock=u8.ownBlock∨∃ g,u'.ownBlock=some g∧wr.heap.size≤g):VX w' u' u9 A x:=
 Kd.F_mono (Kd.F_grown (Kd.F_bound h) hg (fun k hk=>hk.1.1)) (fun k hk=>⟨ne_at hk.1.1 hk.2 hat,hk.1.2⟩)
theorem VX.pushR {A:Option Addr} {x:List Cat.Cell} (h:VX wr u8 u9 A x) (hg:wr.grownBy w' u9.ownBlock) (hat:u'.ownBlock=u9.ownBlock∨∃ g,u'.ownBlock=some g∧wr.heap.size≤g):VX w' u8 u' A x:=
 Kd.F_mono (Kd.F_grown (Kd.F_bound h) hg (fun k hk=>hk.1.2)) (fun k hk=>⟨hk.1.1,ne_at hk.1.2 hk.2 hat⟩)
/-- the last one of a stack -/
theorem top_ {ok:Nat→Prop} {A8:Option Addr} {n c:Nat} {a:List Cat.Cell} (h:Kd.N (Kd.slice 46 k46) 26 wr B ok (.slice A8 n c) (L++[a])) :
  n=L.length+1∧n≤c∧∃ ad A c1,A8=some ad∧wr.cell? (ad.add L.length)=some (.slice A a.length c1)∧a.length≤c1∧Kd.F k46 wr (fun k=>ok k∧some k≠(Value.slice A8 n c).ownBlock) A a.length a:=by
 obtain ⟨e1,e2,_⟩:=Kd.N_reads' h
 rw [List.length_append,List.length_singleton] at e1
 obtain ⟨g,cap,e3,_⟩:=Kd.N_form h (by rw [List.length_append,List.length_singleton];omega)
 injection e3 with e3 e4 e5
 subst e3 e5
 obtain ⟨cs,hcl,hM,hcc⟩:=Kd.N_get h [] (L.length:Int) (by omega) (by omega)
 rw [Int.toNat_natCast] at hM hcc
 have eg:(L++[a]).getD L.length []=a:=by simp [List.getD]
 rw [eg] at hM
 obtain ⟨A1,c1,rfl,ul,ge⟩:=Kd.FK_slice_open hM
 have hv:=hcc 0 _ rfl
 rw [Nat.add_zero,show (Kd.slice 46 k46).sz=1 from rfl,Nat.mul_one] at hv
 exact ⟨e1,e2,_,A1,c1,rfl,hv,ul,ge⟩
theorem pop_ {ok:Nat→Prop} {A8:Option Addr} {n c:Nat} {a:List Cat.Cell} (h:Kd.N (Kd.slice 46 k46) 26 wr B ok (.slice A8 n c) (L++[a])):Kd.N (Kd.slice 46 k46) 26 wr B ok (.slice A8 L.length c) L:=by
 have:=Kd.N_take (m:=L.length) h (by simp)
 rwa [List.take_left'] at this
 rfl
theorem own_same (A:Option Addr) (n m c d:Nat):(Value.slice A n c).ownBlock=(Value.slice A m d).ownBlock:=by cases A <;> rfl
theorem Mem2.pop {A8 A9:Option Addr} {n m c d:Nat} {a b:List Cat.Cell} (h:Mem2 base B wr u0 (.slice A8 n c) (.slice A9 m d) s (L++[a]) (R++[b])):Mem2 base B wr u0 (.slice A8 L.length c) (.slice A9 R.length d) s L R:=
 ⟨h.mS,h.mb,h.mB,by rw [own_same A9 R.length m d d];exact pop_ h.mL,by rw [own_same A8 L.length n c c];exact pop_ h.mR⟩
end
theorem walk2_calls {base B:Nat} {wr:World} {u0 u8 u9:Value} {s:List Cat.Bind} {L R:List (List Cat.Cell)} (h:Mem2 base B wr u0 u8 u9 s L R) (K:Nat) (a x:List Cat.Cell) (A:Option Addr) (c:Nat) (hF:VX wr u8 u9 A a) (hl:a.length≤c) (hx:spec_l2Walk.f K s a=some x) :
  Calls Tryd.prog 105 #[u0,.slice A a.length c] wr fun e w'=>∃ A' c',e = .returned (.slice A' x.length c')∧x.length≤c'∧VX w' u8 u9 A' x∧Below wr.heap.size wr w':=by
 have hS:=Kd.S_apart' (Kd.S_apart' h.mS (Kd.N_typed h.mL) (by decide)) (Kd.N_typed h.mR) (by decide)
 obtain ⟨A0,c0,rfl⟩:=Kd.S_slice hS
 refine (spec_l2Walk.calls K _ A0 c0 s _ A c a x wr (Kd.S_V hS) (Kd.V_mk hl hF) hx).mono ?_
 rintro e w' ⟨v,rfl,hv,hb⟩
 obtain ⟨A',c',rfl⟩:=Kd.V_slice hv
 obtain ⟨_,hc,hF'⟩:=Kd.V_at hv
 refine ⟨A',c',rfl,hc,Kd.F_mono hF' (fun k hk=>?_),hb⟩
 rcases hk with (hk|hk)|hk
 ·exact ⟨hk.1.2,hk.2⟩
 ·exact hk
 ·exact ⟨fun e=>by have:=Kd.N_lt h.mL k e.symm;omega,fun e=>by have:=Kd.N_lt h.mR k e.symm;omega⟩
theorem snoc_of {α:Type} {l:List α} (h:l≠[]):∃ l' a,l=l'++[a]:=⟨l.dropLast,l.getLast h,(List.dropLast_concat_getLast h).symm⟩
theorem last_snoc {α:Type} (l:List α) (a d:α):(l++[a]).getLastD d=a:=by simp
theorem drop_snoc {α:Type} (l:List α) (a:α):(l++[a]).dropLast=l:=by simp
theorem bind3_calls {base B:Nat} {wr:World} {u0 u8 u9:Value} {s:List Cat.Bind} {L R:List (List Cat.Cell)} (h:Mem2 base B wr u0 u8 u9 s L R) (K:Nat) (b:Int) (d:Cat.Cell) (m:List Cat.Cell) (A:Option Addr) (c:Nat) (q1:Option (List Cat.Bind)) (hV:VX wr u8 u9 A (d :: m)) (hl:(d :: m).length≤c) (hq:bind2F K s b (d :: m)=some q1) :
  Calls Tryd.prog 106 #[u0,.int .i64 b,.slice A (m.length+1) c] wr fun e w'=>∃ v1,e = .returned (.tuple #[v1,.bool q1.isSome])∧(∀ s',q1=some s'→Mem2 base B w' v1 u8 u9 s' L R)∧wr.grownBy w' u0.ownBlock∧(v1.ownBlock=u0.ownBlock∨∃ g,v1.ownBlock=some g∧wr.heap.size≤g):=by
 refine (spec_l2Bind.any base u0 s wr K b (d :: m) A c q1 h.mS h.mb hV.now hl hq).mono ?_
 rintro e w' ⟨v1,rfl,h1,h2,h3⟩
 exact ⟨v1,rfl,fun s' e=>h.bind (h1 s' e) h2 h3,h2,h3⟩
theorem grown_far {W wi w':World} {row row8:Option Nat} (h:W.grownBy wi row) (h8:wi.grownBy w' row8) (hr:∀ k,row8=some k→W.heap.size≤k):W.grownBy w' row:=
 ⟨h8.os.trans h.os,h8.tape.trans h.tape,h8.output.trans h.output,Nat.le_trans h.size h8.size,fun i hi hg=>(h8.block i (Nat.lt_of_lt_of_le hi h.size) (fun e=>by have:=hr i e.symm;omega)).trans (h.block i hi hg)⟩
theorem args2_calls {wr:World} {u8 u9:Value} {A:Option Addr} {c:Nat} (K:Nat) (c0:Cat.Cell) (t p:List Cat.Cell) (n:Int) (hF:VX wr u8 u9 A (c0 :: t)) (hl:(c0 :: t).length≤c) (h8:∀ k,u8.ownBlock=some k→k<wr.heap.size) (h9:∀ k,u9.ownBlock=some k→k<wr.heap.size) (h:spec_l1Arg.f K (c0 :: t) n=some p) :
  Calls Tryd.prog 107 #[.slice A (t.length+1) c,.int .i64 n] wr fun e w'=>∃ A' c',e = .returned (.slice A' p.length c')∧p.length≤c'∧Kd.F k46 w' (fun k=>wr.heap.size≤k) A' p.length p∧Below wr.heap.size wr w':=by
 refine (spec_l1Arg.calls K A c (c0 :: t) n p wr hF.now hl h).mono ?_
 rintro e w' ⟨v,rfl,hr,hb⟩
 obtain ⟨A',c',rfl⟩:=Kd.R_slice hr
 exact ⟨A',c',rfl,(Kd.R_reads' hr).2.1,Kd.F_mono (Kd.R_F (Kd.R_bound hr)) (fun k hk=>hk.2.1),hb⟩
/-- what l2Unify holds at each round's head -/
def ULoop2 (base:Nat) (W:World) (v:Value) (K k:Nat) (q:Option (List Cat.Bind)) (u0 u8 u9:Value) (wr:World):Prop:=
 ∃ (s:List Cat.Bind) (L R:List (List Cat.Cell)),Mem2 base W.heap.size wr u0 u8 u9 s L R∧W.grownBy wr v.ownBlock∧(u0.ownBlock=v.ownBlock∨∃ g,u0.ownBlock=some g∧W.heap.size≤g)∧l2uniF K k s L R=some q
theorem ULoop2.next {base:Nat} {W wr w':World} {v u0 u' u8 u9:Value} {K k:Nat} {q:Option (List Cat.Bind)} {s':List Cat.Bind} {L R:List (List Cat.Cell)} (HG:W.grownBy wr v.ownBlock) (HAT:u0.ownBlock=v.ownBlock∨∃ g,u0.ownBlock=some g∧W.heap.size≤g) (hm:Mem2 base W.heap.size w' u' u8 u9 s' L R) (hg:wr.grownBy w' u0.ownBlock)
  (ha:u'.ownBlock=u0.ownBlock∨∃ g,u'.ownBlock=some g∧wr.heap.size≤g) (h:l2uniF K k s' L R=some q):ULoop2 base W v K k q u' u8 u9 w':=⟨s',L,R,hm,grown_row HG HAT hg,row_row HG HAT ha,h⟩
/-- what is held while arguments are put on the stacks -/
def PLoop (base:Nat) (W:World) (v:Value) (K k:Nat) (q:Option (List Cat.Bind)) (x y:List Cat.Cell) (A5 A6:Option Addr) (s:List Cat.Bind) (u0:Value) (r:Nat) (u8 u9:Value) (wi:World):Prop:=
 ∃ (L R:List (List Cat.Cell)),Mem2 base W.heap.size wi u0 u8 u9 s L R∧VX wi u8 u9 A5 x∧VX wi u8 u9 A6 y∧W.grownBy wi v.ownBlock∧((pushF K x y r L R).bind fun p=>l2uniF K k s p.1 p.2)=some q
attribute [local go_sem 20000] eqC46 in
set_option maxHeartbeats 16000000 in
set_option maxRecDepth 100000 in
theorem spec_l2Unify.any (base:Nat) (v:Value) (s0:List Cat.Bind) (W:World) (K k:Nat) (a b:List Cat.Cell) (A B:Option Addr) (ca cb:Nat) (q:Option (List Cat.Bind)) (hS:Kd.S k30 30 W base (fun _=>True) v s0) (hbase:base≤W.heap.size)
  (hFa:Kd.F k46 W (fun k=>some k≠v.ownBlock) A a.length a) (hla:a.length≤ca) (hFb:Kd.F k46 W (fun k=>some k≠v.ownBlock) B b.length b) (hlb:b.length≤cb) (h:l2uniF K k s0 [a] [b]=some q) :
  Calls Tryd.prog 99 #[v,.slice A a.length ca,.slice B b.length cb] W (BPost base W v q):=by
 have HS:=Aside0.mk hS
 have HA:=Aside0.mk hFa
 have HB:=Aside0.mk hFb
 have HH:=Aside0.mk h
 have HBS:=Aside0.mk hbase
 have HLT:=Aside0.mk (show ∀ k,v.ownBlock=some k→k<W.heap.size from Kd.S_lt hS)
 have HB0:=Aside0.mk (Below.refl W.heap.size W)
 clear h hS hFa hFb hbase
 go_enter Tryd.func99,Tryd.ntmps99
 go_wp2_with (first
  | ((with_reducible refine gate_dst (N:=15) rfl ?_);refine Kd.N_lit (Kd.slice 46 k46) (w0:=W) W.heap.size 26 ?hg (N':=15) ?hd (xs:=[a]) (inner:=[.slice A a.length ca]) (ok:=fun k=>some k≠v.ownBlock) (okp:=fun k=>some k≠v.ownBlock) ?hr ?hp (fun _ hk=>hk) (fun e=>by have:=HLT.out _ e.symm;omega) HB0.out (Nat.le_refl _) (by simp) ?_;(case hd=>rfl);(case hg=>rfl);(case hr=>first|(go_simp;done)|(go_simp;rfl));(case hp=>exact Reps.one (Kd.FK_slice_mk hla HA.out) (Reps.none _ _));intro v3 w3 ho hb hg_ hnew_;have HN8:=Aside0.mk (show ∃ g,v3.ownBlock=some g∧W.heap.size≤g from hnew_);have HO3:=Aside0.mk ho;have HB3:=Aside0.mk hb;clear ho hb hg_ hnew_)
  | ((with_reducible refine gate_dst (N:=17) rfl ?_);refine Kd.N_lit (Kd.slice 46 k46) (w0:=W) W.heap.size 26 ?hg (N':=17) ?hd (xs:=[b]) (inner:=[.slice B b.length cb]) (ok:=fun k=>some k≠v.ownBlock∧some k≠v3.ownBlock) (okp:=fun k=>(some k≠v.ownBlock)∧k<W.heap.size) ?hr ?hp (fun k hk=>⟨hk.1,fun e=>by obtain ⟨g,h1,h2⟩:=HN8.out;rw [h1] at e;injection e with e;have:=hk.2;omega⟩) ⟨fun e=>by have:=HLT.out _ e.symm;have:=HB3.out.size;omega,fun e=>by have:=Kd.N_lt HO3.out _ e.symm;omega⟩ HB3.out HB3.out.size (by simp) ?_;(case hd=>rfl);(case hg=>rfl);(case hr=>first|(go_simp;done)|(go_simp;rfl));(case hp=>exact Reps.one (Kd.FK_slice_mk hlb (Kd.F_below (Kd.F_bound HB.out) HB3.out)) (Reps.none _ _));intro v4 w4 ho hb hg_ hnew_;have HN9:=Aside0.mk (show ∃ g,v4.ownBlock=some g∧w3.heap.size≤g from hnew_);have HO4:=Aside0.mk ho;have HG4:=Aside0.mk (show w3.grownBy w4 none from hg_);have HB4:=Aside0.mk hb;clear ho hb hg_ hnew_))
 have HLP:=Aside0.mk (show ULoop2 base W v K k q v v3 v4 w4 from by
  refine ⟨s0,[a],[b],⟨Kd.S_below HS.out HB4.out,Nat.le_trans HBS.out HB4.out.size,HB4.out.size,Kd.N_mono (Kd.N_grown (Kd.N_bound HO3.out) HG4.out (fun k _=>by simp)) (fun k hk=>⟨hk.1,fun e=>?_⟩),HO4.out⟩,below_grownS HB4.out _,.inl rfl,HH.out⟩
  obtain ⟨g,h1,h2⟩:=HN9.out
  rw [h1] at e
  injection e with e
  have:=hk.2
  omega)
 clear HA HB HH HO3 HO4 HG4 HB3 HB4 HN8 HN9 HB0 HS
 go_loopg [0,8,9,10,11,12,13] k (fun gg u0 u8 u9 _ _ _ _ wr=>Aside0 (ULoop2 base W v K gg q u0 u8 u9 wr))
 case atStart=>exact HLP
 case round=>
  cases gk with
  | zero=>
   obtain ⟨s,L,R,_,_,_,h⟩:=hrel.out
   exact absurd h (by simp [l2uniF])
  | succ gk=>
   obtain ⟨s,L,R,hm,hg,hat,h⟩:=hrel.out
   rw [l2uniF] at h
   have HG:=Aside0.mk hg
   have HAT:=Aside0.mk hat
   have HM:=Aside0.mk hm
   clear hg hat hrel HLP
   by_cases hL:L=[]
   ·rw [if_pos hL] at h
    obtain rfl:=Option.some.inj h
    subst hL
    obtain ⟨A8,c8,e8⟩:=Kd.N_slice hm.mL
    subst e8
    clear h hm
    go_wp2
    go_ret2
    exact ⟨u0,rfl,(fun s' e=>by cases e;exact HM.out.mS),HG.out,HAT.out⟩
   ·rw [if_neg hL] at h
    by_cases hlen:L.length=R.length∧L.length<1000000000
    case neg=>rw [if_neg hlen] at h;cases h
    rw [if_pos hlen] at h
    obtain ⟨L',at_,rfl⟩:=snoc_of hL
    obtain ⟨R',bt_,rfl⟩:=snoc_of (l:=R) (by rintro rfl;simp at hlen)
    rw [last_snoc,last_snoc,drop_snoc,drop_snoc] at h
    obtain ⟨x,hx,h1⟩:=Option.bind_eq_some_iff.1 h
    obtain ⟨y,hy,h2⟩:=Option.bind_eq_some_iff.1 h1
    have hlL:L'.length<1000000000:=by have:=hlen.2;simp at this;omega
    have hlR:R'.length<1000000000:=by have:=hlen.1;simp at this;omega
    obtain ⟨A8,c8,e8⟩:=Kd.N_slice hm.mL
    obtain ⟨A9,c9,e9⟩:=Kd.N_slice hm.mR
    rw [List.length_append,List.length_singleton] at e8 e9
    subst e8 e9
    obtain ⟨_,hc8,ad8,A1,c1,ea8,hca,hl1,hF1⟩:=top_ hm.mL
    obtain ⟨_,hc9,ad9,A2,c2,ea9,hcb,hl2,hF2⟩:=top_ hm.mR
    subst ea8 ea9
    cases x with
    | nil=>exact absurd h2 (by simp)
    | cons cx l=>
    cases y with
    | nil=>exact absurd h2 (by simp)
    | cons dy m=>
    have HX:=Aside0.mk hx
    have HY:=Aside0.mk hy
    have H2:=Aside0.mk h2
    have HVA:=Aside0.mk (show VX wr (.slice (some ad8) (L'.length+1) c8) (.slice (some ad9) (R'.length+1) c9) A1 at_ from Kd.F_mono hF1 (fun k hk=>⟨hk.2,hk.1.2⟩))
    have HVB:=Aside0.mk (show VX wr (.slice (some ad8) (L'.length+1) c8) (.slice (some ad9) (R'.length+1) c9) A2 bt_ from Kd.F_mono hF2 (fun k hk=>⟨hk.1.2,hk.2⟩))
    have HL1:=Aside0.mk hl1
    have HL2:=Aside0.mk hl2
    clear h h1 h2 hx hy hm hF1 hF2 hl1 hl2 hlen hL
    have hp8:0<L'.length+1:=by omega
    have hp9:0<R'.length+1:=by omega
    go_wp2_with (first
     | (go_at_call 105;(with_reducible refine (walk2_calls HM.out K at_ (cx :: l) A1 c1 HVA.out HL1.out HX.out).mono ?_);rintro e w5 ⟨A5,c5,rfl,hc5,hv5,hb5⟩;have HV5:=Aside0.mk hv5;have HB5:=Aside0.mk hb5;have HL5:=Aside0.mk hc5;have hcb5:=(hb5.cell (World.block_lt_of_cell? wr _ hcb)).trans hcb;clear hv5 hb5 hc5)
     | (go_at_call 105;(with_reducible refine (walk2_calls (HM.out.below HB5.out) K bt_ (dy :: m) A2 c2 (HVB.out.below HB5.out) HL2.out HY.out).mono ?_);rintro e w6 ⟨A6,c6,rfl,hc6,hv6,hb6⟩;have HV6:=Aside0.mk hv6;have HB6:=Aside0.mk (HB5.out.trans (hb6.mono HB5.out.size));have HV56:=Aside0.mk (HV5.out.below hb6);have HL6:=Aside0.mk hc6;clear hv6 hb6 hc6))
    obtain ⟨adx,ex,hx0,hx1,hx2⟩:=head_cells cx l _ _ HV56.out.now
    obtain ⟨ady,ey,hy0,hy1,hy2⟩:=head_cells dy m _ _ HV6.out.now
    subst ex ey
    have HM6:=Aside0.mk (HM.out.below HB6.out).pop
    have HVX:=Aside0.mk (show VX w6 (.slice (some ad8) L'.length c8) (.slice (some ad9) R'.length c9) (some adx) (cx :: l) from HV56.out)
    have HVY:=Aside0.mk (show VX w6 (.slice (some ad8) L'.length c8) (.slice (some ad9) R'.length c9) (some ady) (dy :: m) from HV6.out)
    have HG6:=Aside0.mk (show wr.grownBy w6 u0.ownBlock from below_grownS HB6.out _)
    have hpx:0<l.length+1:=by omega
    have hpy:0<m.length+1:=by omega
    have hu46:=Tryd.underlying46
    clear HM HV5 HV6 HV56 HB5 HX HY HVA HVB hca hcb hcb5 HL1 HL2 hp8 hp9
    by_cases hxv:cx.f0=1
    ·have hxt:(cx.f0 == 1)=true:=by simpa using hxv
     have HXV:=Aside0.mk hxv
     clear hxv
     by_cases hxy:dy=cx
     ·have hq:cellEq dy cx=true:=(cellEq_iff dy cx).2 hxy
      have H3:=Aside0.mk (H2.out.symm.trans (if_pos ⟨HXV.out,hxy⟩)).symm
      clear hxy H2
      go_quiet (fail)
      go_wp2
      go_roundg gk
      case measure=>omega
      case rel=>exact ⟨ULoop2.next HG.out HAT.out (HM6.out.below (pw_below_drewN (Below.refl _ _) _)) (grown_then HG6.out (below_grownS (pw_below_drewN (Below.refl _ _) _) _)) (.inl rfl) H3.out⟩
     ·have hq:cellEq dy cx=false:=Bool.eq_false_iff.2 (fun h=>hxy ((cellEq_iff dy cx).1 h))
      have h3:=(H2.out.symm.trans ((if_neg (fun h=>hxy h.2)).trans (if_pos HXV.out))).symm
      obtain ⟨q1,h4,h5⟩:=Option.bind_eq_some_iff.1 h3
      have H4:=Aside0.mk h4
      have H5:=Aside0.mk h5
      clear hxy H2 h3 h4 h5
      cases q1 with
      | none=>
       go_quiet (fail)
       go_wp2_with (go_at_call 106;(with_reducible refine (bind3_calls (HM6.out.below (pw_below_drewN (Below.refl _ _) _)) K cx.f1 dy m (some ady) c6 none (HVY.out.below (pw_below_drewN (Below.refl _ _) _)) HL6.out H4.out).mono ?_);rintro e w7 ⟨v7,rfl,_,hg7,ha7⟩;have HG7:=Aside0.mk (grown_then HG6.out (grown_then (below_grownS (pw_below_drewN (Below.refl _ _) _) _) hg7));clear hg7 ha7)
       go_ret2
       have h1:=H5.out
       obtain rfl:=Option.some.inj h1
       have hgw:=grown_row HG.out HAT.out HG7.out
       exact ⟨_,rfl,(fun s' e=>by cases e),grown_then hgw (below_grownS (below_alloc (Below.refl _ _) _) _),.inr ⟨_,rfl,hgw.size⟩⟩
      | some s1=>
       go_quiet (fail)
       go_wp2_with (go_at_call 106;(with_reducible refine (bind3_calls (HM6.out.below (pw_below_drewN (Below.refl _ _) _)) K cx.f1 dy m (some ady) c6 (some s1) (HVY.out.below (pw_below_drewN (Below.refl _ _) _)) HL6.out H4.out).mono ?_);rintro e w7 ⟨v7,rfl,hm7,hg7,ha7⟩;have HM7:=Aside0.mk (hm7 s1 rfl);have HG7:=Aside0.mk (grown_then HG6.out (grown_then (below_grownS (pw_below_drewN (Below.refl _ _) _) _) hg7));have HA7:=Aside0.mk ha7;clear hm7 hg7 ha7)
       go_roundg gk
       case measure=>omega
       case rel=>exact ⟨ULoop2.next HG.out HAT.out HM7.out HG7.out (row_row HG6.out (.inl rfl) HA7.out) H5.out⟩
    ·have hxt:(cx.f0 == 1)=false:=by simpa using hxv
     have HXV:=Aside0.mk hxv
     clear hxv
     have h20:=(H2.out.symm.trans ((if_neg (fun h=>HXV.out h.1)).trans (if_neg HXV.out))).symm
     by_cases hyv:dy.f0=1
     ·have hyt:(dy.f0 == 1)=true:=by simpa using hyv
      have h3:=(h20.symm.trans (if_pos hyv)).symm
      obtain ⟨q1,h4,h5⟩:=Option.bind_eq_some_iff.1 h3
      have H4:=Aside0.mk h4
      have H5:=Aside0.mk h5
      clear H2 h20 h3 h4 h5 hyv
      cases q1 with
      | none=>
       go_quiet (fail)
       go_wp2_with (go_at_call 106;(with_reducible refine (bind3_calls (HM6.out.below (pw_below_drewN (Below.refl _ _) _)) K dy.f1 cx l (some adx) c5 none (HVX.out.below (pw_below_drewN (Below.refl _ _) _)) HL5.out H4.out).mono ?_);rintro e w7 ⟨v7,rfl,_,hg7,ha7⟩;have HG7:=Aside0.mk (grown_then HG6.out (grown_then (below_grownS (pw_below_drewN (Below.refl _ _) _) _) hg7));clear hg7 ha7)
       go_ret2
       have h1:=H5.out
       obtain rfl:=Option.some.inj h1
       have hgw:=grown_row HG.out HAT.out HG7.out
       exact ⟨_,rfl,(fun s' e=>by cases e),grown_then hgw (below_grownS (below_alloc (Below.refl _ _) _) _),.inr ⟨_,rfl,hgw.size⟩⟩
      | some s1=>
       go_quiet (fail)
       go_wp2_with (go_at_call 106;(with_reducible refine (bind3_calls (HM6.out.below (pw_below_drewN (Below.refl _ _) _)) K dy.f1 cx l (some adx) c5 (some s1) (HVX.out.below (pw_below_drewN (Below.refl _ _) _)) HL5.out H4.out).mono ?_);rintro e w7 ⟨v7,rfl,hm7,hg7,ha7⟩;have HM7:=Aside0.mk (hm7 s1 rfl);have HG7:=Aside0.mk (grown_then HG6.out (grown_then (below_grownS (pw_below_drewN (Below.refl _ _) _) _) hg7));have HA7:=Aside0.mk ha7;clear hm7 hg7 ha7)
       go_roundg gk
       case measure=>omega
       case rel=>exact ⟨ULoop2.next HG.out HAT.out HM7.out HG7.out (row_row HG6.out (.inl rfl) HA7.out) H5.out⟩
     ·have hyt:(dy.f0 == 1)=false:=by simpa using hyv
      have h21:=(h20.symm.trans (if_neg hyv)).symm
      clear hyv h20 H2
      by_cases hxy:cx=dy
      ·have hq:cellEq cx dy=true:=(cellEq_iff cx dy).2 hxy
       have h3:=(h21.symm.trans (if_neg (fun h=>h hxy))).symm
       by_cases hr:-1000000≤cx.f1∧cx.f1≤1000000
       case neg=>rw [if_neg hr] at h3;cases h3
       rw [if_pos hr] at h3
       have H3:=Aside0.mk h3
       obtain ⟨hr1,hr2⟩:=hr
       clear hxy h21 h3
       go_quiet (fail)
       go_wp2
       go_quiet (fail)
       go_wp2
       have hPL:∀ n,PLoop base W v K gk q (cx :: l) (dy :: m) (some adx) (some ady) s u0 (if cx.f0=3 then cx.f1.toNat else 0) (.slice (some ad8) L'.length c8) (.slice (some ad9) R'.length c9) (w6.drewN n):=fun n=>
        ⟨L',R',HM6.out.below (pw_below_drewN (Below.refl _ _) _),HVX.out.below (pw_below_drewN (Below.refl _ _) _),HVY.out.below (pw_below_drewN (Below.refl _ _) _),grown_row HG.out HAT.out (grown_then HG6.out (below_grownS (pw_below_drewN (Below.refl _ _) _) _)),H3.out⟩
       have HPL:=Aside0.mk hPL
       have hr0:(if cx.f0=3 then cx.f1.toNat else 0)≤1000000:=by split <;> omega
       have HR0:Aside0 (((if cx.f0=3 then cx.f1.toNat else 0)=0→cx.f0≠3∨cx.f1 - 1<0)∧(0<(if cx.f0=3 then cx.f1.toNat else 0)→cx.f0=3∧cx.f1 - 1=(((if cx.f0=3 then cx.f1.toNat else 0):Nat):Int) - 1)):=⟨by
        by_cases h3:cx.f0=3
        ·rw [if_pos h3];exact ⟨fun e=>.inr (by omega),fun e=>⟨h3,by omega⟩⟩
        ·rw [if_neg h3];exact ⟨fun _=>.inl h3,fun e=>absurd e (by omega)⟩⟩
       generalize (if cx.f0=3 then cx.f1.toNat else 0)=r0 at HPL HR0 hr0
       clear hPL HM6 HVX HVY HG HG6 H3 hx0 hx1 hx2 hy0 hy1 hy2 hq hxt hyt HB6
       obtain ⟨go_,rfl⟩:∃ go_:Nat,go_=gk:=⟨_,rfl⟩
       go_loopg [8,9,13] 1000000 (fun gg u8 u9 s13 wi=>∃ (r:Nat) (j:Int),s13 = .int .i64 j∧r≤gg∧-1000001≤j∧j≤1000000∧Aside0 ((r=0→cx.f0≠3∨j<0)∧(0<r→cx.f0=3∧j=(r:Int) - 1))∧Aside0 (PLoop base W v K go_ q (cx :: l) (dy :: m) (some adx) (some ady) s u0 r u8 u9 wi))
       case atStart=>exact ⟨r0,cx.f1 - 1,rfl,hr0,by omega,by omega,HR0,⟨HPL.out _⟩⟩
       case round=>
        obtain ⟨r,j,rfl,hrg,hj1,hj2,HJ,HP⟩:=hrel
        obtain ⟨Li,Ri,hm,hvx,hvy,hgw,hpush⟩:=HP.out
        obtain ⟨ad1,e1,hx0,hx1,hx2⟩:=head_cells cx l _ _ hvx.now
        obtain ⟨ad2,e2,hy0,hy1,hy2⟩:=head_cells dy m _ _ hvy.now
        injection e1 with e1
        injection e2 with e2
        subst e1 e2
        have HM:=Aside0.mk hm
        have HVX:=Aside0.mk hvx
        have HVY:=Aside0.mk hvy
        have HGW:=Aside0.mk hgw
        have HPU:=Aside0.mk hpush
        clear hm hvx hvy hgw hpush HP
        cases r with
        | zero=>
         have h1:=HPU.out
         replace h1:l2uniF K go_ s Li Ri=some q:=h1
         have H1:=Aside0.mk h1
         clear h1 HPU
         by_cases hk:cx.f0=3
         ·have hkt:(cx.f0 == 3)=true:=by simpa using hk
          have hjn:¬ (0:Int)≤j:=by rcases HJ.out.1 rfl with h|h;exact absurd hk h;omega
          have HK:=Aside0.mk hk
          clear hk
          go_wp2
          go_roundg go_
          case measure=>omega
          case rel=>exact ⟨⟨s,Li,Ri,HM.out,HGW.out,HAT.out,H1.out⟩⟩
         ·have hkt:(cx.f0 == 3)=false:=by simpa using hk
          have HK:=Aside0.mk hk
          clear hk
          go_wp2
          go_roundg go_
          case measure=>omega
          case rel=>exact ⟨⟨s,Li,Ri,HM.out,HGW.out,HAT.out,H1.out⟩⟩
        | succ r=>
         obtain ⟨hk,hjr⟩:=HJ.out.2 (by omega)
         have hkt:(cx.f0 == 3)=true:=by simpa using hk
         have hjr2:j=(r:Int):=by omega
         subst hjr2
         obtain ⟨p2,hp2,hp3⟩:=Option.bind_eq_some_iff.1 HPU.out
         rw [pushF] at hp2
         obtain ⟨pa,hpa,hp4⟩:=Option.bind_eq_some_iff.1 hp2
         obtain ⟨pb,hpb,hp5⟩:=Option.bind_eq_some_iff.1 hp4
         by_cases hsz:Li.length<1000000000∧Ri.length<1000000000
         case neg=>rw [if_neg hsz] at hp5;cases hp5
         rw [if_pos hsz] at hp5
         have HPA:=Aside0.mk hpa
         have HPB:=Aside0.mk hpb
         have HP3:=Aside0.mk (show ((pushF K (cx :: l) (dy :: m) r (Li++[pa]) (Ri++[pb])).bind fun p=>l2uniF K go_ s p.1 p.2)=some q by rw [hp5];exact hp3)
         have HSZ:=Aside0.mk hsz
         have HK:=Aside0.mk hk
         clear hk hjr hp2 hp3 hpa hp4 hpb hp5 hsz HPU HJ
         have hj0:(0:Int)≤(r:Int):=by omega
         obtain ⟨Au,cu,eu8⟩:=Kd.N_slice HM.out.mL
         obtain ⟨Av,cv,eu9⟩:=Kd.N_slice HM.out.mR
         subst eu8 eu9
         go_wp2_with (first
          | (go_at_call 107;(with_reducible refine (args2_calls K cx l pa (r:Int) HVX.out HL5.out (Kd.N_lt HM.out.mL) (Kd.N_lt HM.out.mR) HPA.out).mono ?_);rintro e w7 ⟨A7,c7,rfl,hc7,hf7,hb7⟩;have HF7:=Aside0.mk hf7;have HB7:=Aside0.mk hb7;have HC7:=Aside0.mk hc7;clear hf7 hb7 hc7)
          | ((with_reducible refine gate_builtin (b:=.append) (xs:=#[.tmp 63,.tmp 67]) rfl ?_);at_builtin;refine Kd.N_append (Kd.slice 46 k46) (w0:=wr) W.heap.size rfl (.tmp 63) (.tmp 67) 62 26 (.slice none 0 0) 24 rfl Tryd.underlying62 info26 rfl (by decide) (by omega) (.slice Au Li.length cu) Li pa [.slice A7 pa.length c7] (fun k=>some k≠u0.ownBlock∧some k≠(Value.slice Av Ri.length cv).ownBlock) (fun k=>wr.heap.size≤k) rfl qz71 ?aP ?aK ?aF ?aO ?aB ?aS ?aL ?_;(case aP=>exact Kd.FK_slice_mk HC7.out HF7.out);(case aK=>exact fun k hk=>⟨⟨fun e=>by have:=Kd.S_lt HM.out.mS k e.symm;omega,fun e=>by have:=Kd.N_lt HM.out.mR k e.symm;omega⟩,fun e=>by have:=Kd.N_lt HM.out.mL k e.symm;omega⟩);(case aF=>exact fun k hk=>⟨fun e=>by have:=Kd.S_lt HM.out.mS k e.symm;have:=HB7.out.size;omega,fun e=>by have:=Kd.N_lt HM.out.mR k e.symm;have:=HB7.out.size;omega⟩);(case aO=>exact (HM.out.below HB7.out).mL);(case aB=>exact HB7.out.mono HGW.out.size);(case aS=>exact Nat.le_trans HGW.out.size HB7.out.size);(case aL=>have:=HSZ.out.1;omega);intro v8 w8 hn8 hb8 hg8 ha8;have HM8:=Aside0.mk ((HM.out.below HB7.out).pushL hn8 hg8 ha8);have HVX8:=Aside0.mk ((HVX.out.below HB7.out).pushL hg8 ha8);have HVY8:=Aside0.mk ((HVY.out.below HB7.out).pushL hg8 ha8);have HG8:=Aside0.mk (grown_far (grown_then HGW.out (below_grownS HB7.out _)) hg8 (Kd.N_base HM.out.mL));clear hn8 hb8 hg8 ha8)
          | (go_at_call 107;(with_reducible refine (args2_calls K dy m pb (r:Int) HVY8.out HL6.out (Kd.N_lt HM8.out.mL) (Kd.N_lt HM8.out.mR) HPB.out).mono ?_);rintro e w9 ⟨A9,c9_,rfl,hc9_,hf9,hb9⟩;have HF9:=Aside0.mk hf9;have HB9:=Aside0.mk hb9;have HC9:=Aside0.mk hc9_;clear hf9 hb9 hc9_)
          | ((with_reducible refine gate_builtin (b:=.append) (xs:=#[.tmp 69,.tmp 73]) rfl ?_);at_builtin;refine Kd.N_append (Kd.slice 46 k46) (w0:=w8) W.heap.size rfl (.tmp 69) (.tmp 73) 62 26 (.slice none 0 0) 24 rfl Tryd.underlying62 info26 rfl (by decide) (by omega) (.slice Av Ri.length cv) Ri pb [.slice A9 pb.length c9_] (fun k=>some k≠u0.ownBlock∧some k≠v8.ownBlock) (fun k=>w8.heap.size≤k) rfl qz71 ?bP ?bK ?bF ?bO ?bB ?bS ?bL ?_;(case bP=>exact Kd.FK_slice_mk HC9.out HF9.out);(case bK=>exact fun k hk=>⟨⟨fun e=>by have:=Kd.S_lt HM8.out.mS k e.symm;omega,fun e=>by have:=Kd.N_lt HM8.out.mL k e.symm;omega⟩,fun e=>by have:=Kd.N_lt HM8.out.mR k e.symm;omega⟩);(case bF=>exact fun k hk=>⟨fun e=>by have:=Kd.S_lt HM8.out.mS k e.symm;have:=HB9.out.size;omega,fun e=>by have:=Kd.N_lt HM8.out.mL k e.symm;have:=HB9.out.size;omega⟩);(case bO=>exact (HM8.out.below HB9.out).mR);(case bB=>exact HB9.out.mono HG8.out.size);(case bS=>exact Nat.le_trans HG8.out.size HB9.out.size);(case bL=>have:=HSZ.out.2;omega);intro v10 w10 hn10 hb10 hg10 ha10;have HM10:=Aside0.mk ((HM8.out.below HB9.out).pushR hn10 hg10 ha10);have HVX10:=Aside0.mk ((HVX8.out.below HB9.out).pushR hg10 ha10);have HVY10:=Aside0.mk ((HVY8.out.below HB9.out).pushR hg10 ha10);have HG10:=Aside0.mk (grown_far (grown_then HG8.out (below_grownS HB9.out _)) hg10 (Kd.N_base HM8.out.mR));clear hn10 hb10 hg10 ha10))
         go_roundg (gk - 1)
         case measure=>omega
         case rel=>exact ⟨r,(r:Int) - 1,by go_num,by omega,by omega,by omega,⟨fun e=>.inr (by omega),fun e=>⟨HK.out,rfl⟩⟩,⟨⟨_,_,HM10.out,HVX10.out,HVY10.out,HG10.out,HP3.out⟩⟩⟩
      ·have hq:cellEq cx dy=false:=Bool.eq_false_iff.2 (fun h=>hxy ((cellEq_iff cx dy).1 h))
       have H3:=Aside0.mk (h21.symm.trans (if_pos hxy)).symm
       clear hxy h21
       go_quiet (fail)
       go_wp2
       go_quiet (fail)
       go_wp2
       go_ret2
       have h1:=H3.out
       obtain rfl:=Option.some.inj h1
       have hgw:=grown_row HG.out HAT.out HG6.out
       exact ⟨_,rfl,(fun s' e=>by cases e),grown_then hgw (below_grownS (below_alloc (pw_below_drewN (Below.refl _ _) _) _) _),.inr ⟨_,rfl,hgw.size⟩⟩

end Go.Proofs.YtlaicnoikeieeaaDoor.P
