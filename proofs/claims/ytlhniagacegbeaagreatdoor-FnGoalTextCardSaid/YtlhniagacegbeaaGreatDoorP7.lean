/- Contracts of functions of the program: each as a Lean function, and that its call does what that says; printed by cprint.py (this session) over print.py of the kit. Conditions: the hypotheses of each theorem. -/
import Derived.Test.YtlhniagacegbeaaGreatDoorVZ
import Derived.Test.YtlhniagacegbeaaGreatDoorP0
import Derived.Test.YtlhniagacegbeaaGreatDoorP1
import Derived.Test.YtlhniagacegbeaaGreatDoorP4
namespace Go.Proofs.YtlhniagacegbeaaGreatDoor.P
open Go.RowKit Go.Proofs.YtlhniagacegbeaaGreatDoorW.PrintWords Go.Proofs.YtlhniagacegbeaaGreatDoorW.PrintLast Go.Proofs.YtlhniagacegbeaaGreatDoorW.PrintMore
attribute [local go_sem] max2_int min2_int max_two min_two max_three min_three max_four min_four   -- for this text's walks alone
set_option linter.unusedVariables false
set_option linter.unusedSimpArgs false

attribute [local go_sem high] eqA63
/-! ### laws_caTerm: function 37 -/
def laws_caTerm.l0:Nat→List (S63)→List (S63)→Int→Option (Bool)
 | 0,_,_,_=>none
 | k+1,x0,x1,x5=>if x5<(x0.length:Int) then (if 0≤x5 then (if x5<(x1.length:Int) then (if (!(((rd_T63 x0 x5).f0) == ((rd_T63 x1 x5).f0)) || (!(((rd_T63 x0 x5).f1) == ((rd_T63 x1 x5).f1)) || (!((((rd_T63 x0 x5).f2).toList) == (((rd_T63 x1 x5).f2).toList)))))=true then (some false) else (laws_caTerm.l0 k x0 x1 (wrap64 (x5+1)))) else (none)) else (none)) else (some true)
def laws_caTerm.f (k:Nat) (l0:List (S63)) (l1:List (S63)):Option (Bool):=if (l0.length:Int)=(l1.length:Int) then (laws_caTerm.l0 k l0 l1 0) else (some false)
set_option maxHeartbeats 8000000 in
set_option maxRecDepth 100000 in
theorem laws_caTerm.calls (k:Nat) (A0:Option Addr) (c0:Nat) (l0:List (S63)) (A1:Option Addr) (c1:Nat) (l1:List (S63)) (r:Bool) (w:World) (hr0:Kd.C k63 w A0 l0.length l0) (hc0:l0.length≤c0) (hr1:Kd.C k63 w A1 l1.length l1) (hc1:l1.length≤c1) (h:laws_caTerm.f k l0 l1=some r) :
  Calls Tryz.prog 37 #[.slice A0 l0.length c0,.slice A1 l1.length c1] w fun e w'=>e = .returned (.bool r)∧Drawn0 w w':=by
 have hu63:=Tryz.underlying63;have HR0:=Aside0.mk hr0;have HC0:=Aside0.mk hc0;clear hr0 hc0;have HR1:=Aside0.mk hr1;have HC1:=Aside0.mk hc1;clear hr1 hc1;have H:(if (l0.length:Int)=(l1.length:Int) then (laws_caTerm.l0 k l0 l1 0) else (some false))=some r:=h;clear h;by_cases c3:(l0.length:Int)=(l1.length:Int)
 ·rw [if_pos c3] at H
  have c3b0:((l0.length:Int) == (l1.length:Int))=true:=beq_iff_eq.mpr c3;have c3b1:((l0.length:Int) != (l1.length:Int))=false:=bne_eq_false_iff_eq.mpr c3;have c3b2:(l0.length == l1.length)=true:=by first|simpa using c3|(simp at c3 ⊢;omega)
  clear c3;have H':=Aside0.mk H;clear H;go_enter Tryz.func37,Tryz.ntmps37;go_wp2
  repeat (go_quiet (fail);try go_wp2)
  go_loopg [5] k (fun kq v5 w'=>∃ (x5_1:Int),v5 = .int .i64 x5_1∧Aside0 (laws_caTerm.l0 kq l0 l1 x5_1=some r)∧Aside0 (kq≤k)∧Drawn0 w w')
  case atStart=>exact ⟨(0),qz12,H',⟨Nat.le_refl _⟩,qz34⟩
  case round=>
   clear H';(try clear c1);(try clear c3);(try clear c3b0);(try clear c3b1);(try clear c3b2);obtain ⟨x5_1,rfl,HA,HK1,⟨m1,rfl⟩⟩:=hrel;cases gk with
   | zero=>exact absurd HA.out (by simp [laws_caTerm.l0])
   | succ k1=>
    have H:=HA.out;clear HA;simp only [laws_caTerm.l0] at H;by_cases c4:x5_1<(l0.length:Int)
    ·rw [if_pos c4] at H
     have c4b0:decide (x5_1<(l0.length:Int))=true:=decide_eq_true c4;clear c4;by_cases c5:0≤x5_1
     ·rw [if_pos c5] at H
      have c5b0:decide (0≤x5_1)=true:=decide_eq_true c5;clear c5;by_cases c6:x5_1<(l1.length:Int)
      ·rw [if_pos c6] at H
       have c6b0:decide (x5_1<(l1.length:Int))=true:=decide_eq_true c6;clear c6;by_cases c7:(!(((rd_T63 l0 x5_1).f0) == ((rd_T63 l1 x5_1).f0)) || (!(((rd_T63 l0 x5_1).f1) == ((rd_T63 l1 x5_1).f1)) || (!((((rd_T63 l0 x5_1).f2).toList) == (((rd_T63 l1 x5_1).f2).toList)))))=true
       ·rw [if_pos c7] at H
        have c7b0:(!(((rd_T63 l0 x5_1).f0) == ((rd_T63 l1 x5_1).f0)) || (!(((rd_T63 l0 x5_1).f1) == ((rd_T63 l1 x5_1).f1)) || (!((((rd_T63 l0 x5_1).f2).toList) == (((rd_T63 l1 x5_1).f2).toList)))))=true:=c7;clear c7;obtain rfl:=Option.some.inj H;have p541:0≤(x5_1:Int):=of_decide_eq_true qz7;have q541:x5_1<(l0.length:Int):=of_decide_eq_true qz7;obtain ⟨ad541,e541,hx541_0,hx541_1,hx541_2⟩:=at_T63 HR0.out x5_1 p541 q541;cases e541
        replace p541:=eq_true p541;replace q541:=eq_true q541;have p542:0≤(x5_1:Int):=of_decide_eq_true qz7;have q542:x5_1<(l1.length:Int):=of_decide_eq_true qz7;obtain ⟨ad542,e542,hx542_0,hx542_1,hx542_2⟩:=at_T63 HR1.out x5_1 p542 q542;cases e542
        replace p542:=eq_true p542;replace q542:=eq_true q542;go_wp2
        repeat (go_quiet (fail);try go_wp2)
        go_ret;exact ⟨qz12,qz34⟩
       ·rw [if_neg c7] at H
        have c7b0:(!(((rd_T63 l0 x5_1).f0) == ((rd_T63 l1 x5_1).f0)) || (!(((rd_T63 l0 x5_1).f1) == ((rd_T63 l1 x5_1).f1)) || (!((((rd_T63 l0 x5_1).f2).toList) == (((rd_T63 l1 x5_1).f2).toList)))))=false:=by simpa using c7
        clear c7;have H':=Aside0.mk H;clear H;have p541:0≤(x5_1:Int):=of_decide_eq_true qz7;have q541:x5_1<(l0.length:Int):=of_decide_eq_true qz7;obtain ⟨ad541,e541,hx541_0,hx541_1,hx541_2⟩:=at_T63 HR0.out x5_1 p541 q541;cases e541
        replace p541:=eq_true p541;replace q541:=eq_true q541;have p542:0≤(x5_1:Int):=of_decide_eq_true qz7;have q542:x5_1<(l1.length:Int):=of_decide_eq_true qz7;obtain ⟨ad542,e542,hx542_0,hx542_1,hx542_2⟩:=at_T63 HR1.out x5_1 p542 q542;cases e542
        replace p542:=eq_true p542;replace q542:=eq_true q542;go_wp2
        repeat (go_quiet (fail);try go_wp2)
        go_roundg k1
        case measure=>have:=HK1.out;omega
        case rel=>exact ⟨(wrap64 (x5_1+1)),qz12,H',⟨by have:=HK1.out;omega⟩,qz34⟩
      ·rw [if_neg c6] at H
       exact absurd H (by simp)
     ·rw [if_neg c5] at H
      exact absurd H (by simp)
    ·rw [if_neg c4] at H
     have c4b0:decide (x5_1<(l0.length:Int))=false:=decide_eq_false c4;clear c4;obtain rfl:=Option.some.inj H;go_wp2
     repeat (go_quiet (fail);try go_wp2)
     go_ret;exact ⟨qz12,qz34⟩
 ·rw [if_neg c3] at H
  have c3b0:((l0.length:Int) == (l1.length:Int))=false:=beq_eq_false_iff_ne.mpr c3;have c3b1:((l0.length:Int) != (l1.length:Int))=true:=bne_iff_ne.mpr c3;have c3b2:(l0.length == l1.length)=false:=by first|simpa using c3|(simp at c3 ⊢;omega)
  obtain rfl:=Option.some.inj H;go_enter Tryz.func37,Tryz.ntmps37;go_wp2
  repeat (go_quiet (fail);try go_wp2)
  go_ret;exact ⟨qz12,qz34⟩

/-! ### laws_caGoal: function 15 -/
def laws_caGoal.f (k:Nat) (a0_0:Int) (l0_1:List (S63)) (l0_2:List (S63)) (l0_3:List (S63)) (a1_0:Int) (l1_1:List (S63)) (l1_2:List (S63)) (l1_3:List (S63)):Option (Bool):=if a0_0=a1_0 then ((laws_caTerm.f k l0_1 l1_1).bind fun t545=>(if t545=true then ((laws_caTerm.f k l0_2 l1_2).bind fun t546=>(if t546=true then ((laws_caTerm.f k l0_3 l1_3).bind fun t547=>(some t547)) else (some false))) else (some false))) else (some false)
set_option maxHeartbeats 8000000 in
set_option maxRecDepth 100000 in
theorem laws_caGoal.calls (k:Nat) (a0_0:Int) (A0_1:Option Addr) (c0_1:Nat) (l0_1:List (S63)) (A0_2:Option Addr) (c0_2:Nat) (l0_2:List (S63)) (A0_3:Option Addr) (c0_3:Nat) (l0_3:List (S63)) (a1_0:Int) (A1_1:Option Addr) (c1_1:Nat) (l1_1:List (S63)) (A1_2:Option Addr) (c1_2:Nat) (l1_2:List (S63)) (A1_3:Option Addr) (c1_3:Nat) (l1_3:List (S63)) (r:Bool) (w:World) (hr0_1:Kd.C k63 w A0_1 l0_1.length l0_1) (hc0_1:l0_1.length≤c0_1) (hr0_2:Kd.C k63 w A0_2 l0_2.length l0_2) (hc0_2:l0_2.length≤c0_2) (hr0_3:Kd.C k63 w A0_3 l0_3.length l0_3) (hc0_3:l0_3.length≤c0_3) (hr1_1:Kd.C k63 w A1_1 l1_1.length l1_1) (hc1_1:l1_1.length≤c1_1) (hr1_2:Kd.C k63 w A1_2 l1_2.length l1_2) (hc1_2:l1_2.length≤c1_2) (hr1_3:Kd.C k63 w A1_3 l1_3.length l1_3) (hc1_3:l1_3.length≤c1_3) (h:laws_caGoal.f k a0_0 l0_1 l0_2 l0_3 a1_0 l1_1 l1_2 l1_3=some r) :
  Calls Tryz.prog 15 #[.agg #[.int .i64 a0_0,.slice A0_1 l0_1.length c0_1,.slice A0_2 l0_2.length c0_2,.slice A0_3 l0_3.length c0_3],.agg #[.int .i64 a1_0,.slice A1_1 l1_1.length c1_1,.slice A1_2 l1_2.length c1_2,.slice A1_3 l1_3.length c1_3]] w fun e w'=>e = .returned (.bool r)∧Below w.heap.size w w':=by
 have hu24:=Tryz.underlying24;have HR0_1:=Aside0.mk hr0_1;have HC0_1:=Aside0.mk hc0_1;clear hr0_1 hc0_1;have HR0_2:=Aside0.mk hr0_2;have HC0_2:=Aside0.mk hc0_2;clear hr0_2 hc0_2;have HR0_3:=Aside0.mk hr0_3;have HC0_3:=Aside0.mk hc0_3;clear hr0_3 hc0_3;have HR1_1:=Aside0.mk hr1_1;have HC1_1:=Aside0.mk hc1_1;clear hr1_1 hc1_1;have HR1_2:=Aside0.mk hr1_2;have HC1_2:=Aside0.mk hc1_2;clear hr1_2 hc1_2;have HR1_3:=Aside0.mk hr1_3;have HC1_3:=Aside0.mk hc1_3;clear hr1_3 hc1_3;have HB:=Aside0.mk (Below.refl w.heap.size w);have H:(if a0_0=a1_0 then ((laws_caTerm.f k l0_1 l1_1).bind fun t545=>(if t545=true then ((laws_caTerm.f k l0_2 l1_2).bind fun t546=>(if t546=true then ((laws_caTerm.f k l0_3 l1_3).bind fun t547=>(some t547)) else (some false))) else (some false))) else (some false))=some r:=h;clear h;by_cases c3:a0_0=a1_0
 ·rw [if_pos c3] at H
  have c3b0:(a0_0 == a1_0)=true:=beq_iff_eq.mpr c3;have c3b1:(a0_0 != a1_0)=false:=bne_eq_false_iff_eq.mpr c3;clear c3;replace H:=Option.bind_eq_some_iff.mp H;obtain ⟨t545,A40,H⟩:=H;(try dsimp only at H);have A4:=Aside0.mk A40;clear A40;by_cases c5:t545=true
  ·subst c5
   have H1:((laws_caTerm.f k l0_2 l1_2).bind fun t546=>(if t546=true then ((laws_caTerm.f k l0_3 l1_3).bind fun t547=>(some t547)) else (some false)))=some r:=qz37;clear H;have H:=H1;clear H1;replace H:=Option.bind_eq_some_iff.mp H;obtain ⟨t546,A60,H⟩:=H;(try dsimp only at H);have A6:=Aside0.mk A60;clear A60;by_cases c7:t546=true
   ·subst c7
    have H1:((laws_caTerm.f k l0_3 l1_3).bind fun t547=>(some t547))=some r:=qz37;clear H;have H:=H1;clear H1;replace H:=Option.bind_eq_some_iff.mp H;obtain ⟨t547,A80,H⟩:=H;(try dsimp only at H);have A8:=Aside0.mk A80;clear A80;obtain rfl:=Option.some.inj H;go_enter Tryz.func15,Tryz.ntmps15
    go_wp2_with (first|((with_reducible refine gate_dst (N:=2) rfl ?_);refine box_event ?hg (N:=2) ?hd (cs:=#[.int .i64 a0_0,.slice A0_1 l0_1.length c0_1,.slice A0_2 l0_2.length c0_2,.slice A0_3 l0_3.length c0_3]) (t:=24) ?hr ?_;(case hd=>rfl);(case hg=>rfl);(case hr=>first|(go_simp;done)|(go_simp;rfl));intro gb543 hg w9 hbox hb;have n_:=as3 (below_step qz5 hb) (hbox) ((by rw [hg];exact (below_size qz5):w.heap.size≤gb543));clear HB;obtain ⟨HB,BK543,GE543⟩:=n_;clear hb hbox hg)|((with_reducible refine gate_dst (N:=3) rfl ?_);refine box_event ?hg (N:=3) ?hd (cs:=#[.int .i64 a1_0,.slice A1_1 l1_1.length c1_1,.slice A1_2 l1_2.length c1_2,.slice A1_3 l1_3.length c1_3]) (t:=24) ?hr ?_;(case hd=>rfl);(case hg=>rfl);(case hr=>first|(go_simp;done)|(go_simp;rfl));intro gb544 hg w10 hbox hb;have n_:=as6 (blk_below (blkp BK543.out) hb) (below_step qz42 hb) (hbox) ((by rw [hg];exact (below_size qz42):w.heap.size≤gb544)) ((by rw [hg];exact Nat.ne_of_lt (blk_lt (blkp BK543.out)):gb543≠gb544)) ((by rw [hg];exact Nat.ne_of_gt (blk_lt (blkp BK543.out)):gb544≠gb543));clear BK543 HB;obtain ⟨BK543,HB,BK544,GE544,NB543_544,NB544_543⟩:=n_;clear hb hbox hg;have hnb11:=NB543_544.out;have hnc11:=NB544_543.out;obtain ⟨hcz12_0,hcz12_1,hcz12_2,hcz12_3,hfz12_0,hfz12_1,hfz12_2,hfz12_3⟩:=blk4 BK543.out;obtain ⟨hcz13_0,hcz13_1,hcz13_2,hcz13_3,hfz13_0,hfz13_1,hfz13_2,hfz13_3⟩:=blk4 BK544.out)|(go_at_call 37;(with_reducible refine (laws_caTerm.calls k _ _ l0_1 _ _ l1_1 true _ ?side1 ?side2 ?side3 ?side4 A4.out).mono ?_);(case side1=>exact qz13);(case side2=>exact HC0_1.out);(case side3=>exact qz65);(case side4=>exact HC1_1.out);rintro e w' ⟨rfl,⟨nd,rfl⟩⟩)|(go_at_call 37;(with_reducible refine (laws_caTerm.calls k _ _ l0_2 _ _ l1_2 true _ ?side1 ?side2 ?side3 ?side4 A6.out).mono ?_);(case side1=>exact qz81);(case side2=>exact HC0_2.out);(case side3=>exact qz80);(case side4=>exact HC1_2.out);rintro e w' ⟨rfl,⟨nd,rfl⟩⟩)|(go_at_call 37;(with_reducible refine (laws_caTerm.calls k _ _ l0_3 _ _ l1_3 t547 _ ?side1 ?side2 ?side3 ?side4 A8.out).mono ?_);(case side1=>repeat (first|exact (Kd.C_below HR0_3.out qz36)|(with_reducible refine Kd.C_alloc ?_ _)|(with_reducible refine Kd.C_drewN ?_ _)|(with_reducible refine Kd.C_drew ?_)));(case side2=>exact HC0_3.out);(case side3=>repeat (first|exact (Kd.C_below HR1_3.out qz36)|(with_reducible refine Kd.C_alloc ?_ _)|(with_reducible refine Kd.C_drewN ?_ _)|(with_reducible refine Kd.C_drew ?_)));(case side4=>exact HC1_3.out);rintro e w' ⟨rfl,⟨nd,rfl⟩⟩))
    go_ret;exact ⟨qz4,qz36⟩
   ·replace c7:=Bool.eq_false_iff.mpr c7
    subst c7;have H1:(some false)=some r:=qz20;clear H;have H:=H1;clear H1;obtain rfl:=Option.some.inj H;go_enter Tryz.func15,Tryz.ntmps15
    go_wp2_with (first|((with_reducible refine gate_dst (N:=2) rfl ?_);refine box_event ?hg (N:=2) ?hd (cs:=#[.int .i64 a0_0,.slice A0_1 l0_1.length c0_1,.slice A0_2 l0_2.length c0_2,.slice A0_3 l0_3.length c0_3]) (t:=24) ?hr ?_;(case hd=>rfl);(case hg=>rfl);(case hr=>first|(go_simp;done)|(go_simp;rfl));intro gb543 hg w14 hbox hb;have n_:=as3 (below_step qz5 hb) (hbox) ((by rw [hg];exact (below_size qz5):w.heap.size≤gb543));clear HB;obtain ⟨HB,BK543,GE543⟩:=n_;clear hb hbox hg)|((with_reducible refine gate_dst (N:=3) rfl ?_);refine box_event ?hg (N:=3) ?hd (cs:=#[.int .i64 a1_0,.slice A1_1 l1_1.length c1_1,.slice A1_2 l1_2.length c1_2,.slice A1_3 l1_3.length c1_3]) (t:=24) ?hr ?_;(case hd=>rfl);(case hg=>rfl);(case hr=>first|(go_simp;done)|(go_simp;rfl));intro gb544 hg w15 hbox hb;have n_:=as6 (blk_below (blkp BK543.out) hb) (below_step qz42 hb) (hbox) ((by rw [hg];exact (below_size qz42):w.heap.size≤gb544)) ((by rw [hg];exact Nat.ne_of_lt (blk_lt (blkp BK543.out)):gb543≠gb544)) ((by rw [hg];exact Nat.ne_of_gt (blk_lt (blkp BK543.out)):gb544≠gb543));clear BK543 HB;obtain ⟨BK543,HB,BK544,GE544,NB543_544,NB544_543⟩:=n_;clear hb hbox hg;have hnb16:=NB543_544.out;have hnc16:=NB544_543.out;obtain ⟨hcz17_0,hcz17_1,hcz17_2,hcz17_3,hfz17_0,hfz17_1,hfz17_2,hfz17_3⟩:=blk4 BK543.out;obtain ⟨hcz18_0,hcz18_1,hcz18_2,hcz18_3,hfz18_0,hfz18_1,hfz18_2,hfz18_3⟩:=blk4 BK544.out)|(go_at_call 37;(with_reducible refine (laws_caTerm.calls k _ _ l0_1 _ _ l1_1 true _ ?side1 ?side2 ?side3 ?side4 A4.out).mono ?_);(case side1=>exact qz13);(case side2=>exact HC0_1.out);(case side3=>exact qz65);(case side4=>exact HC1_1.out);rintro e w' ⟨rfl,⟨nd,rfl⟩⟩)|(go_at_call 37;(with_reducible refine (laws_caTerm.calls k _ _ l0_2 _ _ l1_2 false _ ?side1 ?side2 ?side3 ?side4 A6.out).mono ?_);(case side1=>exact qz81);(case side2=>exact HC0_2.out);(case side3=>exact qz80);(case side4=>exact HC1_2.out);rintro e w' ⟨rfl,⟨nd,rfl⟩⟩))
    go_ret;exact ⟨qz4,qz36⟩
  ·replace c5:=Bool.eq_false_iff.mpr c5
   subst c5;have H1:(some false)=some r:=qz20;clear H;have H:=H1;clear H1;obtain rfl:=Option.some.inj H;go_enter Tryz.func15,Tryz.ntmps15
   go_wp2_with (first|((with_reducible refine gate_dst (N:=2) rfl ?_);refine box_event ?hg (N:=2) ?hd (cs:=#[.int .i64 a0_0,.slice A0_1 l0_1.length c0_1,.slice A0_2 l0_2.length c0_2,.slice A0_3 l0_3.length c0_3]) (t:=24) ?hr ?_;(case hd=>rfl);(case hg=>rfl);(case hr=>first|(go_simp;done)|(go_simp;rfl));intro gb543 hg w19 hbox hb;have n_:=as3 (below_step qz5 hb) (hbox) ((by rw [hg];exact (below_size qz5):w.heap.size≤gb543));clear HB;obtain ⟨HB,BK543,GE543⟩:=n_;clear hb hbox hg)|((with_reducible refine gate_dst (N:=3) rfl ?_);refine box_event ?hg (N:=3) ?hd (cs:=#[.int .i64 a1_0,.slice A1_1 l1_1.length c1_1,.slice A1_2 l1_2.length c1_2,.slice A1_3 l1_3.length c1_3]) (t:=24) ?hr ?_;(case hd=>rfl);(case hg=>rfl);(case hr=>first|(go_simp;done)|(go_simp;rfl));intro gb544 hg w20 hbox hb;have n_:=as6 (blk_below (blkp BK543.out) hb) (below_step qz42 hb) (hbox) ((by rw [hg];exact (below_size qz42):w.heap.size≤gb544)) ((by rw [hg];exact Nat.ne_of_lt (blk_lt (blkp BK543.out)):gb543≠gb544)) ((by rw [hg];exact Nat.ne_of_gt (blk_lt (blkp BK543.out)):gb544≠gb543));clear BK543 HB;obtain ⟨BK543,HB,BK544,GE544,NB543_544,NB544_543⟩:=n_;clear hb hbox hg;have hnb21:=NB543_544.out;have hnc21:=NB544_543.out;obtain ⟨hcz22_0,hcz22_1,hcz22_2,hcz22_3,hfz22_0,hfz22_1,hfz22_2,hfz22_3⟩:=blk4 BK543.out;obtain ⟨hcz23_0,hcz23_1,hcz23_2,hcz23_3,hfz23_0,hfz23_1,hfz23_2,hfz23_3⟩:=blk4 BK544.out)|(go_at_call 37;(with_reducible refine (laws_caTerm.calls k _ _ l0_1 _ _ l1_1 false _ ?side1 ?side2 ?side3 ?side4 A4.out).mono ?_);(case side1=>exact qz13);(case side2=>exact HC0_1.out);(case side3=>exact qz65);(case side4=>exact HC1_1.out);rintro e w' ⟨rfl,⟨nd,rfl⟩⟩))
   go_ret;exact ⟨qz4,qz36⟩
 ·rw [if_neg c3] at H
  have c3b0:(a0_0 == a1_0)=false:=beq_eq_false_iff_ne.mpr c3;have c3b1:(a0_0 != a1_0)=true:=bne_iff_ne.mpr c3;obtain rfl:=Option.some.inj H;go_enter Tryz.func15,Tryz.ntmps15
  go_wp2_with (first|((with_reducible refine gate_dst (N:=2) rfl ?_);refine box_event ?hg (N:=2) ?hd (cs:=#[.int .i64 a0_0,.slice A0_1 l0_1.length c0_1,.slice A0_2 l0_2.length c0_2,.slice A0_3 l0_3.length c0_3]) (t:=24) ?hr ?_;(case hd=>rfl);(case hg=>rfl);(case hr=>first|(go_simp;done)|(go_simp;rfl));intro gb543 hg w24 hbox hb;have n_:=as3 (below_step qz5 hb) (hbox) ((by rw [hg];exact (below_size qz5):w.heap.size≤gb543));clear HB;obtain ⟨HB,BK543,GE543⟩:=n_;clear hb hbox hg)|((with_reducible refine gate_dst (N:=3) rfl ?_);refine box_event ?hg (N:=3) ?hd (cs:=#[.int .i64 a1_0,.slice A1_1 l1_1.length c1_1,.slice A1_2 l1_2.length c1_2,.slice A1_3 l1_3.length c1_3]) (t:=24) ?hr ?_;(case hd=>rfl);(case hg=>rfl);(case hr=>first|(go_simp;done)|(go_simp;rfl));intro gb544 hg w25 hbox hb;have n_:=as6 (blk_below (blkp BK543.out) hb) (below_step qz42 hb) (hbox) ((by rw [hg];exact (below_size qz42):w.heap.size≤gb544)) ((by rw [hg];exact Nat.ne_of_lt (blk_lt (blkp BK543.out)):gb543≠gb544)) ((by rw [hg];exact Nat.ne_of_gt (blk_lt (blkp BK543.out)):gb544≠gb543));clear BK543 HB;obtain ⟨BK543,HB,BK544,GE544,NB543_544,NB544_543⟩:=n_;clear hb hbox hg;have hnb26:=NB543_544.out;have hnc26:=NB544_543.out;obtain ⟨hcz27_0,hcz27_1,hcz27_2,hcz27_3,hfz27_0,hfz27_1,hfz27_2,hfz27_3⟩:=blk4 BK543.out;obtain ⟨hcz28_0,hcz28_1,hcz28_2,hcz28_3,hfz28_0,hfz28_1,hfz28_2,hfz28_3⟩:=blk4 BK544.out))
  go_ret;exact ⟨qz4,qz36⟩

/-! ### laws_caOk: function 18 -/
def laws_caOk.f :Option (Bool):=(impl_TrmOk.f (([(⟨2,1,(⟨#[]⟩:ByteArray)⟩:S63)]:List (S63)))).bind fun t551=>(some t551)
set_option maxHeartbeats 8000000 in
set_option maxRecDepth 100000 in
theorem laws_caOk.calls  (r:Bool) (w:World) (h:laws_caOk.f  = some r) :
  Calls Tryz.prog 18 #[] w fun e w'=>e = .returned (.bool r)∧Below w.heap.size w w':=by
 have hu63:=Tryz.underlying63;have HB:=Aside0.mk (Below.refl w.heap.size w);have H:((impl_TrmOk.f (([(⟨2,1,(⟨#[]⟩:ByteArray)⟩:S63)]:List (S63)))).bind fun t551=>(some t551))=some r:=h;clear h;obtain ⟨y548,hy548⟩:∃ y_:List (S63),y_=(([(⟨2,1,(⟨#[]⟩:ByteArray)⟩:S63)]:List (S63))):=⟨_,rfl⟩;replace H:((impl_TrmOk.f y548).bind fun t551=>(some t551))=some r:=by first|(rw [hy548];exact H)|exact H
 have Ny548:=Aside0.mk hy548;clear hy548;replace H:=Option.bind_eq_some_iff.mp H;obtain ⟨t551,A10,H⟩:=H;(try dsimp only at H);have A1:=Aside0.mk A10;clear A10;obtain rfl:=Option.some.inj H;go_enter Tryz.func18,Tryz.ntmps18
 go_wp2_with (first|((with_reducible refine gate_dst (N:=2) rfl ?_);refine Kd.R_lit k63 _ 63 ?hg (N:=2) ?hd (xs:=([(⟨2,1,(⟨#[]⟩:ByteArray)⟩:S63)]:List (S63))) (inner:=[.int .i64 2,.int .i64 1,.string (⟨#[]⟩:ByteArray)]) (ok:=fun _=>True) (okp:=fun _=>True) ?hr ?hp (fun _ hk=>hk) trivial (Below.refl _ _) (Nat.le_refl _) (by simp) ?_;(case hd=>rfl);(case hg=>rfl);(case hr=>first|(go_simp;done)|(go_simp;rfl));(case hp=>exact (Reps.c3 (show Kd.M k63 _ _ _ (⟨2,1,(⟨#[]⟩:ByteArray)⟩:S63) [.int .i64 2,.int .i64 1,.string (⟨#[]⟩:ByteArray)] from (k63_mkM _ _ _ (⟨2,1,(⟨#[]⟩:ByteArray)⟩:S63) )) (Reps.none _ _)));intro v549 w2 ho3 hb hg_ hnew_;clear hg_ hnew_;(first|rw [← Ny548.out] at ho3|(simp only [Int.reduceToNat] at ho3;rw [← Ny548.out] at ho3));have n_:=as2 (Kd.R_lower ho3 (below_size qz5)) (below_step qz5 hb);clear HB;obtain ⟨HO550,HB⟩:=n_;clear hb ho3;obtain ⟨Ao4,co4,eo4⟩:=Kd.R_slice HO550.out;subst eo4)|(go_at_call 42;(with_reducible refine (impl_TrmOk.calls _ _ y548 t551 _ ?side1 ?side2 A1.out).mono ?_);(case side1=>repeat (first|exact (Kd.R_reads' HO550.out).2.2|(with_reducible refine Kd.C_alloc ?_ _)|(with_reducible refine Kd.C_drewN ?_ _)|(with_reducible refine Kd.C_drew ?_)));(case side2=>exact (Kd.R_reads' HO550.out).2.1);rintro e w5 ⟨rfl,hb⟩;have n_:=as2 (Kd.R_below (Kd.Rp HO550.out) hb) (below_step qz5 hb);clear HO550 HB;obtain ⟨HO550,HB⟩:=n_;clear hb))
 go_ret;exact ⟨qz4,qz8⟩

end Go.Proofs.YtlhniagacegbeaaGreatDoor.P
