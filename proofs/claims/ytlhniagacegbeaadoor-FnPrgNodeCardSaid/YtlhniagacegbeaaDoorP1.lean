/- Contracts of functions of the program: each as a Lean function, and that its call does what that says; printed by cprint.py (this session) over print.py of the kit. Conditions: the hypotheses of each theorem. -/
import Derived.Test.YtlhniagacegbeaaDoorVZ
import Derived.Test.YtlhniagacegbeaaDoorP0
namespace Go.Proofs.YtlhniagacegbeaaDoor.P
open Go.RowKit Go.Proofs.YtlhniagacegbeaaDoorW.PrintWords Go.Proofs.YtlhniagacegbeaaDoorW.PrintWords.Kd Go.Proofs.YtlhniagacegbeaaDoorW.PrintLast Go.Proofs.YtlhniagacegbeaaDoorW.PrintMore Go.Proofs.YtlhniagacegbeaaDoorW.PrintMore.Kd
attribute [local go_sem] max2_int min2_int max_two min_two max_three min_three max_four min_four   -- for this text's walks alone
set_option linter.unusedVariables false
set_option maxHeartbeats 8000000
set_option maxRecDepth 100000
set_option linter.unusedSimpArgs false
def spec_l3Call.f (l0:List (S44)):Option (Bool):=if (l0.length:Int) > 0 then (if 0<(l0.length:Int) then (some (((rd_T44 l0 0).f0) == 3)) else (none)) else (some false)
theorem spec_l3Call.calls (A0:Option Addr) (c0:Nat) (l0:List (S44)) (r:Bool) (w:World) (hr0:Kd.C k44 w A0 l0.length l0) (hc0:l0.length≤c0) (h:spec_l3Call.f l0=some r) :
  Calls Tryd.prog 33 #[.slice A0 l0.length c0] w fun e w'=>e = .returned (.bool r)∧Drawn0 w w':=by
 have HR0:=Am hr0;have HC0:=Am hc0;clear hr0 hc0;have H:(if (l0.length:Int) > 0 then (if 0<(l0.length:Int) then (some (((rd_T44 l0 0).f0) == 3)) else (none)) else (some false))=some r:=h;clear h;by_cases c2:(l0.length:Int) > 0
 ·rw [if_pos c2] at H
  have c2b0:=decide_eq_true c2;have c2b1:decide (0<l0.length)=true:=decide_eq_true Qe;clear c2;obtain ⟨c3,H⟩:=ifS H;have c3b0:=decide_eq_true c3;have c3b1:decide (0<l0.length)=true:=decide_eq_true Qe;clear c3;obtain rfl:=oi H;have p107:0≤(0:Int):=Qe;have q107:0<(l0.length:Int):=of_decide_eq_true Qc;obtain ⟨ad107,e107,hx107_0,hx107_1,hx107_2⟩:=at_T44 HR0.1 0 p107 q107;cases e107
  have qi107:(0<l0.length)=True:=eq_true Qe;(try rw [tn0] at hx107_0);(try rw [show 0 * 3=0 from rfl] at hx107_0);(try rw [Addr.add_zero'] at hx107_0);(try rw [tn0] at hx107_1);(try rw [show 0 * 3=0 from rfl] at hx107_1);(try rw [Addr.add_zero'] at hx107_1);(try rw [tn0] at hx107_2);(try rw [show 0 * 3=0 from rfl] at hx107_2);(try rw [Addr.add_zero'] at hx107_2);obtain ⟨p107,q107⟩:=et2 p107 q107;go_enter Tryd.func33,Tryd.ntmps33;go_wp2;go_ret;exact ⟨Qf,Qp⟩
 ·rw [if_neg c2] at H
  have c2b0:=decide_eq_false c2;have c2b1:decide (0<l0.length)=false:=decide_eq_false Qe;clear c2;obtain rfl:=oi H;go_enter Tryd.func33,Tryd.ntmps33;go_wp2;go_ret;exact ⟨Qf,Qp⟩
mutual
def spec_l1Name.j0:Nat→ByteArray→Bool→Option (Bool)
 | 0,_,_=>none
 | k+1,x0,x15=>if x15=true then (some false) else (spec_l1Name.l0 k x0 0)
def spec_l1Name.l0:Nat→ByteArray→Int→Option (Bool)
 | 0,_,_=>none
 | k+1,x0,x3=>if x3<(x0.size:Int) then (if 0≤x3 then (if (bt x0 x3)<97 then (some false) else (if (bt x0 x3) > 122 then (some false) else (spec_l1Name.l0 k x0 (wrap64 (x3+1))))) else (none)) else (some true)
end
def spec_l1Name.f (k:Nat) (a0:ByteArray):Option (Bool):=if (a0.size:Int)=0 then (spec_l1Name.j0 k a0 true) else (if (a0.size:Int) > 8 then (spec_l1Name.j0 k a0 true) else (spec_l1Name.j0 k a0 (a0.toList == ([97,110,100]:List UInt8))))
theorem spec_l1Name.calls (k:Nat) (a0:ByteArray) (r:Bool) (w:World) (h:spec_l1Name.f k a0=some r) :
  Calls Tryd.prog 60 #[.string a0] w fun e w'=>e = .returned (.bool r)∧Drawn0 w w':=by
 have H:(if (a0.size:Int)=0 then (spec_l1Name.j0 k a0 true) else (if (a0.size:Int) > 8 then (spec_l1Name.j0 k a0 true) else (spec_l1Name.j0 k a0 (a0.toList == ([97,110,100]:List UInt8)))))=some r:=h;clear h;have HC2:=Am H;clear H;go_enter Tryd.func60,Tryd.ntmps60;go_upto_region 1 with (fail)
 go_cut [15] (fun v15 wc=>∃ (kq:Nat) (x15_1:Bool),v15 = .bool x15_1∧Aside0 (spec_l1Name.j0 kq a0 x15_1=some r)∧Aside0 (kq≤k)∧Drawn0 w wc)
 case first=>
  have H:=HC2.1;clear HC2;by_cases c3:(a0.size:Int)=0
  ·rw [if_pos c3] at H
   obtain ⟨c3b0,c3b1⟩:=bqP c3;clear c3;(first|rw [c3b0]|rw [c3b1]|(simp only [i64_w,i32_w];rw [c3b0])|skip);have H':=Am H;clear H;go_wp2;go_meet
   case rel=>exact ⟨_,(true),Qf,H',⟨Qt⟩,Qp⟩
  ·rw [if_neg c3] at H
   obtain ⟨c3b0,c3b1⟩:=bqN c3;(first|rw [c3b0]|rw [c3b1]|(simp only [i64_w,i32_w];rw [c3b0])|skip);by_cases c4:(a0.size:Int) > 8
   ·rw [if_pos c4] at H
    have c4b0:=decide_eq_true c4;have c4b1:decide (8<a0.size)=true:=decide_eq_true Qe;clear c4;have H':=Am H;clear H;go_wp2;go_meet
    case rel=>exact ⟨_,(true),Qf,H',⟨Qt⟩,Qp⟩
   ·rw [if_neg c4] at H
    have c4b0:=decide_eq_false c4;have c4b1:decide (8<a0.size)=false:=decide_eq_false Qe;clear c4;have H':=Am H;clear H;go_wp2;go_meet
    case rel=>exact ⟨_,((a0.toList == ([97,110,100]:List UInt8))),Qf,H',⟨Qt⟩,Qp⟩
 case rest=>
  clear HC2;obtain ⟨kq,x15_1,rfl,HA,HJ1,⟨mc1,rfl⟩⟩:=hcut;cases kq with
  | zero=>exact absurd HA.1 (by simp [spec_l1Name.j0])
  | succ kj1=>
   have H:=HA.1;clear HA;simp only [spec_l1Name.j0] at H;by_cases c5:x15_1=true
   ·subst c5
    rw [if_pos rfl] at H;obtain rfl:=oi H;go_wp2;go_ret;exact ⟨Qf,Qp⟩
   ·replace c5:=Bool.eq_false_iff.mpr c5
    subst c5;rw [if_neg nft] at H;have H':=Am H;clear H;go_wp2
    go_loopg [3] kj1 (fun kq v3 w'=>∃ (x3_2:Int),v3 = .int .i64 x3_2∧Aside0 (spec_l1Name.l0 kq a0 x3_2=some r)∧Aside0 (kq≤kj1)∧Drawn0 w w')
    case atStart=>exact ⟨(0),Qf,H',⟨Nat.le_refl _⟩,Qp⟩
    case round=>
     clear H';(try clear c5);obtain ⟨x3_2,rfl,HA,HK2,⟨m2,rfl⟩⟩:=hrel;cases gk with
     | zero=>exact absurd HA.1 (by simp [spec_l1Name.l0])
     | succ k2=>
      have H:=HA.1;clear HA;simp only [spec_l1Name.l0] at H;by_cases c6:x3_2<(a0.size:Int)
      ·rw [if_pos c6] at H
       have c6b0:=decide_eq_true c6;clear c6;obtain ⟨c7,H⟩:=ifS H;have c7b0:=decide_eq_true c7;clear c7;by_cases c9:(bt a0 x3_2)<97
       ·rw [if_pos c9] at H
        have c9b0:=decide_eq_true c9;clear c9;obtain rfl:=oi H;have p8:0≤(x3_2:Int):=of_decide_eq_true Qc;have q8:x3_2<(a0.size:Int):=of_decide_eq_true Qc;have hx8:=bt_at a0 x3_2;obtain ⟨p8,q8⟩:=et2 p8 q8;go_wp2;go_ret;exact ⟨Qf,Qp⟩
       ·rw [if_neg c9] at H
        have c9b0:=decide_eq_false c9;clear c9;by_cases c11:(bt a0 x3_2) > 122
        ·rw [if_pos c11] at H
         have c11b0:=decide_eq_true c11;clear c11;obtain rfl:=oi H;have p8:0≤(x3_2:Int):=of_decide_eq_true Qc;have q8:x3_2<(a0.size:Int):=of_decide_eq_true Qc;have hx8:=bt_at a0 x3_2;obtain ⟨p8,q8⟩:=et2 p8 q8;have p10:0≤(x3_2:Int):=of_decide_eq_true Qc;have q10:x3_2<(a0.size:Int):=of_decide_eq_true Qc;have hx10:=bt_at a0 x3_2;obtain ⟨p10,q10⟩:=et2 p10 q10;go_wp2;go_ret;exact ⟨Qf,Qp⟩
        ·rw [if_neg c11] at H
         have c11b0:=decide_eq_false c11;clear c11;have H':=Am H;clear H;have p8:0≤(x3_2:Int):=of_decide_eq_true Qc;have q8:x3_2<(a0.size:Int):=of_decide_eq_true Qc;have hx8:=bt_at a0 x3_2;obtain ⟨p8,q8⟩:=et2 p8 q8;have p10:0≤(x3_2:Int):=of_decide_eq_true Qc;have q10:x3_2<(a0.size:Int):=of_decide_eq_true Qc;have hx10:=bt_at a0 x3_2;obtain ⟨p10,q10⟩:=et2 p10 q10;go_wp2;go_roundg k2
         case measure=>have:=HJ1.1;have:=HK2.1;omega
         case rel=>exact ⟨(wrap64 (x3_2+1)),Qf,H',⟨Zm⟩,Qp⟩
      ·rw [if_neg c6] at H
       have c6b0:=decide_eq_false c6;clear c6;obtain rfl:=oi H;go_wp2;go_ret;exact ⟨Qf,Qp⟩
def spec_l1In.f (a0:Int) (a1:Int) (a2:Int):Option (Bool):=if a0≥a1 then (some (decide (a0≤a2))) else (some false)
theorem spec_l1In.calls (a0:Int) (a1:Int) (a2:Int) (r:Bool) (w:World) (h:spec_l1In.f a0 a1 a2=some r) :
  Calls Tryd.prog 61 #[.int .i64 a0,.int .i64 a1,.int .i64 a2] w fun e w'=>e = .returned (.bool r)∧Drawn0 w w':=by
 have H:(if a0≥a1 then (some (decide (a0≤a2))) else (some false))=some r:=h;clear h;by_cases c4:a0≥a1
 ·rw [if_pos c4] at H
  have c4b0:=decide_eq_true c4;clear c4;obtain rfl:=oi H;go_enter Tryd.func61,Tryd.ntmps61;go_wp2;go_ret;exact ⟨Qf,Qp⟩
 ·rw [if_neg c4] at H
  have c4b0:=decide_eq_false c4;clear c4;obtain rfl:=oi H;go_enter Tryd.func61,Tryd.ntmps61;go_wp2;go_ret;exact ⟨Qf,Qp⟩
def spec_l1Cell.f (k:Nat) (a0_0:Int) (a0_1:Int) (a0_2:ByteArray):Option (Bool):=if a0_0=1 then ((spec_l1In.f a0_1 0 99999).bind fun t109=>(if t109=true then (some (a0_2.toList == ([]:List UInt8))) else (some false))) else (if a0_0=2 then ((spec_l1In.f a0_1 (-9999) 9999).bind fun t110=>(if t110=true then (some (a0_2.toList == ([]:List UInt8))) else (some false))) else (if a0_0=3 then ((spec_l1In.f a0_1 0 3).bind fun t111=>(if t111=true then ((spec_l1Name.f k a0_2).bind fun t112=>(some t112)) else (some false))) else (some false)))
theorem spec_l1Cell.calls (k:Nat) (a0_0:Int) (a0_1:Int) (a0_2:ByteArray) (r:Bool) (w:World) (h:spec_l1Cell.f k a0_0 a0_1 a0_2=some r) :
  Calls Tryd.prog 37 #[.agg #[.int .i64 a0_0,.int .i64 a0_1,.string a0_2]] w fun e w'=>e = .returned (.bool r)∧Below w.heap.size w w':=by
 have hu44:=Tryd.underlying44;have HB:=Am (Below.refl w.heap.size w);have H:(if a0_0=1 then ((spec_l1In.f a0_1 0 99999).bind fun t109=>(if t109=true then (some (a0_2.toList == ([]:List UInt8))) else (some false))) else (if a0_0=2 then ((spec_l1In.f a0_1 (-9999) 9999).bind fun t110=>(if t110=true then (some (a0_2.toList == ([]:List UInt8))) else (some false))) else (if a0_0=3 then ((spec_l1In.f a0_1 0 3).bind fun t111=>(if t111=true then ((spec_l1Name.f k a0_2).bind fun t112=>(some t112)) else (some false))) else (some false))))=some r:=h;clear h;have HC2:=Am H;clear H;go_enter Tryd.func37,Tryd.ntmps37;go_upto_if 5 with (first|((with_reducible refine gate_dst (N:=1) rfl ?_);refine box_event ?hg (N:=1) ?hd (cs:=#[.int .i64 a0_0,.int .i64 a0_1,.string a0_2]) (t:=44) ?hr ?_;(case hd=>rfl);(case hg=>rfl);(case hr=>first|(go_simp;done)|(go_simp;rfl));intro gb108 hg w3 hbox hb;have n_:=as3 (below_step Qd hb) (hbox) ((by rw [hg];exact (below_size Qd):w.heap.size≤gb108));clear HB;obtain ⟨HB,BK108,GE108⟩:=n_;clear hb hbox hg;obtain ⟨hcz4_0,hcz4_1,hcz4_2,hfz4_0,hfz4_1,hfz4_2⟩:=blk3 BK108.1))
 (try simp only [Act.put,sA_,sZ_,sS_]);have H:=HC2.1;clear HC2;by_cases c5:a0_0=1
 ·rw [if_pos c5] at H
  obtain ⟨c5b0,c5b1⟩:=bqP c5;clear c5;(first|rw [c5b0]|rw [c5b1]|(simp only [i64_w,i32_w];rw [c5b0])|skip);obtain ⟨t109,A6,H⟩:=bnd H;(try dsimp only at H);by_cases c7:t109=true
  ·subst c7
   rw [if_pos rfl] at H;obtain rfl:=oi H;obtain ⟨hcz8_0,hcz8_1,hcz8_2,hfz8_0,hfz8_1,hfz8_2⟩:=blk3 BK108.1
   go_wp2_with (first|(go_at_call 61;(with_reducible refine (spec_l1In.calls a0_1 0 99999 true _ A6.1).mono ?_);rintro e w' ⟨rfl,⟨nd,rfl⟩⟩))
   go_ret;exact ⟨Qg,Zn⟩
  ·replace c7:=Bool.eq_false_iff.mpr c7
   subst c7;rw [if_neg nft] at H;obtain rfl:=oi H;obtain ⟨hcz9_0,hcz9_1,E,hfz9_0,hfz9_1,G⟩:=blk3 BK108.1
   go_wp2_with (first|(go_at_call 61;(with_reducible refine (spec_l1In.calls a0_1 0 99999 false _ A6.1).mono ?_);rintro e w' ⟨rfl,⟨nd,rfl⟩⟩))
   go_ret;exact ⟨Qg,Zn⟩
 ·rw [if_neg c5] at H
  obtain ⟨c5b0,c5b1⟩:=bqN c5;(first|rw [c5b0]|rw [c5b1]|(simp only [i64_w,i32_w];rw [c5b0])|skip);by_cases c10:a0_0=2
  ·rw [if_pos c10] at H
   obtain ⟨c10b0,c10b1⟩:=bqP c10;clear c10;obtain ⟨t110,A11,H⟩:=bnd H;(try dsimp only at H);by_cases c12:t110=true
   ·subst c12
    rw [if_pos rfl] at H;obtain rfl:=oi H;obtain ⟨hcz13_0,hcz13_1,hcz13_2,hfz13_0,hfz13_1,hfz13_2⟩:=blk3 BK108.1
    go_wp2_with (first|(go_at_call 61;(with_reducible refine (spec_l1In.calls a0_1 (-9999) 9999 true _ A11.1).mono ?_);rintro e w' ⟨rfl,⟨nd,rfl⟩⟩))
    go_ret;exact ⟨Qg,Zn⟩
   ·replace c12:=Bool.eq_false_iff.mpr c12
    subst c12;rw [if_neg nft] at H;obtain rfl:=oi H;obtain ⟨hcz14_0,hcz14_1,hcz14_2,hfz14_0,hfz14_1,hfz14_2⟩:=blk3 BK108.1
    go_wp2_with (first|(go_at_call 61;(with_reducible refine (spec_l1In.calls a0_1 (-9999) 9999 false _ A11.1).mono ?_);rintro e w' ⟨rfl,⟨nd,rfl⟩⟩))
    go_ret;exact ⟨Qg,Zn⟩
  ·rw [if_neg c10] at H
   obtain ⟨c10b0,c10b1⟩:=bqN c10;by_cases c15:a0_0=3
   ·rw [if_pos c15] at H
    obtain ⟨c15b0,c15b1⟩:=bqP c15;clear c15;obtain ⟨t111,A16,H⟩:=bnd H;(try dsimp only at H);by_cases c17:t111=true
    ·subst c17
     rw [if_pos rfl] at H;obtain ⟨t112,z,H⟩:=bnd H;(try dsimp only at H);obtain rfl:=oi H;obtain ⟨hcz19_0,hcz19_1,hcz19_2,hfz19_0,hfz19_1,hfz19_2⟩:=blk3 BK108.1
     go_wp2_with (first|(go_at_call 61;(with_reducible refine (spec_l1In.calls a0_1 0 3 true _ A16.1).mono ?_);rintro e w' ⟨rfl,⟨nd,rfl⟩⟩)|(go_at_call 60;(with_reducible refine (spec_l1Name.calls k a0_2 t112 _ z.1).mono ?_);rintro e w' ⟨rfl,⟨nd,rfl⟩⟩))
     go_ret;exact ⟨Qg,Zn⟩
    ·replace c17:=Bool.eq_false_iff.mpr c17
     subst c17;rw [if_neg nft] at H;obtain rfl:=oi H;obtain ⟨hcz20_0,hcz20_1,hcz20_2,hfz20_0,hfz20_1,hfz20_2⟩:=blk3 BK108.1
     go_wp2_with (first|(go_at_call 61;(with_reducible refine (spec_l1In.calls a0_1 0 3 false _ A16.1).mono ?_);rintro e w' ⟨rfl,⟨nd,rfl⟩⟩))
     go_ret;exact ⟨Qg,Zn⟩
   ·rw [if_neg c15] at H
    obtain ⟨c15b0,c15b1⟩:=bqN c15;obtain rfl:=oi H;go_wp2;go_ret;exact ⟨Qg,Zn⟩
mutual
def spec_l1End.l0:Nat→List (S44)→Int→Int→Option (Int)
 | 0,_,_,_=>none
 | k+1,x0,x5,x6=>if x5 > 0 then (if x6<0 then (spec_l1End.j1 k x0 x5 x6 true) else (spec_l1End.j1 k x0 x5 x6 (decide (x6≥(x0.length:Int))))) else (some x6)
def spec_l1End.j1:Nat→List (S44)→Int→Int→Bool→Option (Int)
 | 0,_,_,_,_=>none
 | k+1,x0,x5,x6,x17=>if x17=true then (some (-1)) else (if 0≤x6 then (if x6<(x0.length:Int) then (if ((rd_T44 x0 x6).f0)=3 then (spec_l1End.l0 k x0 (wrap64 ((wrap64 (x5 - 1))+((rd_T44 x0 x6).f1))) (wrap64 (x6+1))) else (spec_l1End.l0 k x0 (wrap64 (x5 - 1)) (wrap64 (x6+1)))) else (none)) else (none))
end
def spec_l1End.f (k:Nat) (l0:List (S44)) (a1:Int):Option (Int):=spec_l1End.l0 k l0 1 a1
theorem spec_l1End.calls (k:Nat) (A0:Option Addr) (c0:Nat) (l0:List (S44)) (a1:Int) (r:Int) (w:World) (hr0:Kd.C k44 w A0 l0.length l0) (hc0:l0.length≤c0) (h:spec_l1End.f k l0 a1=some r) :
  Calls Tryd.prog 38 #[.slice A0 l0.length c0,.int .i64 a1] w fun e w'=>e = .returned (.int .i64 r)∧Drawn0 w w':=by
 have HR0:=Am hr0;have HC0:=Am hc0;clear hr0 hc0;have H:(spec_l1End.l0 k l0 1 a1)=some r:=h;clear h;have H':=Am H;clear H;go_enter Tryd.func38,Tryd.ntmps38;go_wp2
 go_loopg [5,6] k (fun kq v5 v6 w'=>∃ (x5_1:Int) (x6_1:Int),v5 = .int .i64 x5_1∧v6 = .int .i64 x6_1∧Aside0 (spec_l1End.l0 kq l0 x5_1 x6_1=some r)∧Aside0 (kq≤k)∧Drawn0 w w')
 case atStart=>exact ⟨(1),(a1),Qf,Qf,H',⟨Nat.le_refl _⟩,Qp⟩
 case round=>
  clear H';obtain ⟨x5_1,x6_1,rfl,rfl,HA,HK1,⟨m1,rfl⟩⟩:=hrel;cases gk with
  | zero=>exact absurd HA.1 (by simp [spec_l1End.l0])
  | succ k1=>
   have H:=HA.1;clear HA;simp only [spec_l1End.l0] at H;by_cases c3:x5_1 > 0
   ·rw [if_pos c3] at H
    have c3b0:=decide_eq_true c3;clear c3;have HC4:=Am H;clear H;go_upto_region 4 with (fail)
    go_cut [17] (fun v17 wc=>∃ (kq:Nat) (x17_3:Bool),v17 = .bool x17_3∧Aside0 (spec_l1End.j1 kq l0 x5_1 x6_1 x17_3=some r)∧Aside0 (kq≤k1)∧Drawn0 w wc)
    case first=>
     have H:=HC4.1;clear HC4;by_cases c5:x6_1<0
     ·rw [if_pos c5] at H
      have c5b0:=decide_eq_true c5;clear c5;(first|rw [c5b0]|rw [c5b1]|(simp only [i64_w,i32_w];rw [c5b0])|skip);have H':=Am H;clear H;go_wp2;go_meet
      case rel=>exact ⟨_,(true),Qf,H',⟨QE⟩,Qp⟩
     ·rw [if_neg c5] at H
      have c5b0:=decide_eq_false c5;clear c5;(first|rw [c5b0]|rw [c5b1]|(simp only [i64_w,i32_w];rw [c5b0])|skip);have H':=Am H;clear H;go_wp2;go_meet
      case rel=>exact ⟨_,(decide (x6_1≥(l0.length:Int))),Qf,H',⟨QE⟩,Qp⟩
    case rest=>
     clear HC4;(try clear c3);(try clear c3b0);obtain ⟨kq,x17_3,rfl,HA,HJ3,⟨mc3,rfl⟩⟩:=hcut;cases kq with
     | zero=>exact absurd HA.1 (by simp [spec_l1End.j1])
     | succ kj3=>
      have H:=HA.1;clear HA;simp only [spec_l1End.j1] at H;by_cases c6:x17_3=true
      ·subst c6
       rw [if_pos rfl] at H;obtain rfl:=oi H;go_wp2;go_ret;exact ⟨Qf,Qp⟩
      ·replace c6:=Bool.eq_false_iff.mpr c6
       subst c6;rw [if_neg nft] at H;obtain ⟨c7,H⟩:=ifS H;have c7b0:=decide_eq_true c7;clear c7;obtain ⟨c8,H⟩:=ifS H;have c8b0:=decide_eq_true c8;clear c8;by_cases c9:((rd_T44 l0 x6_1).f0)=3
       ·rw [if_pos c9] at H
        obtain ⟨c9b0,c9b1⟩:=bqP c9;clear c9;have H':=Am H;clear H;have p113:0≤(x6_1:Int):=of_decide_eq_true Qc;have q113:x6_1<(l0.length:Int):=of_decide_eq_true Qc;obtain ⟨ad113,e113,hx113_0,hx113_1,hx113_2⟩:=at_T44 HR0.1 x6_1 p113 q113;cases e113
        obtain ⟨p113,q113⟩:=et2 p113 q113;have p114:0≤(x6_1:Int):=of_decide_eq_true Qc;have q114:x6_1<(l0.length:Int):=of_decide_eq_true Qc;obtain ⟨ad114,e114,hx114_0,hx114_1,hx114_2⟩:=at_T44 HR0.1 x6_1 p114 q114;obtain rfl:ad113=ad114:=(by injection e114);obtain ⟨p114,q114⟩:=et2 p114 q114;go_wp2;go_roundg kj3
        case measure=>have:=HK1.1;have:=HJ3.1;omega
        case rel=>exact ⟨(wrap64 ((wrap64 (x5_1 - 1))+((rd_T44 l0 x6_1).f1))),(wrap64 (x6_1+1)),Qf,Qf,H',⟨by have:=HK1.1;have:=HJ3.1;omega⟩,Qp⟩
       ·rw [if_neg c9] at H
        obtain ⟨c9b0,c9b1⟩:=bqN c9;have H':=Am H;clear H;have p113:0≤(x6_1:Int):=of_decide_eq_true Qc;have q113:x6_1<(l0.length:Int):=of_decide_eq_true Qc;obtain ⟨ad113,e113,hx113_0,hx113_1,hx113_2⟩:=at_T44 HR0.1 x6_1 p113 q113;cases e113
        obtain ⟨p113,q113⟩:=et2 p113 q113;go_wp2;go_roundg kj3
        case measure=>have:=HK1.1;have:=HJ3.1;omega
        case rel=>exact ⟨(wrap64 (x5_1 - 1)),(wrap64 (x6_1+1)),Qf,Qf,H',⟨by have:=HK1.1;have:=HJ3.1;omega⟩,Qp⟩
   ·rw [if_neg c3] at H
    have c3b0:=decide_eq_false c3;clear c3;obtain rfl:=oi H;go_wp2;go_ret;exact ⟨Qf,Qp⟩
mutual
def spec_TrmOk.j0:Nat→List (S44)→Bool→Option (Bool)
 | 0,_,_=>none
 | k+1,x0,x11=>if x11=true then (some false) else (spec_TrmOk.l0 k x0 0)
def spec_TrmOk.l0:Nat→List (S44)→Int→Option (Bool)
 | 0,_,_=>none
 | k+1,x0,x3=>if x3<(x0.length:Int) then (if 0≤x3 then ((spec_l1Cell.f k ((rd_T44 x0 x3).f0) ((rd_T44 x0 x3).f1) ((rd_T44 x0 x3).f2)).bind fun t117=>(if t117=true then (spec_TrmOk.l0 k x0 (wrap64 (x3+1))) else (some false))) else (none)) else ((spec_l1End.f k x0 0).bind fun j=>(some (j == (x0.length:Int))))
end
def spec_TrmOk.f (k:Nat) (l0:List (S44)):Option (Bool):=if (l0.length:Int)=0 then (spec_TrmOk.j0 k l0 true) else (spec_TrmOk.j0 k l0 (decide ((l0.length:Int) > 40)))
theorem spec_TrmOk.calls (k:Nat) (A0:Option Addr) (c0:Nat) (l0:List (S44)) (r:Bool) (w:World) (hr0:Kd.C k44 w A0 l0.length l0) (hc0:l0.length≤c0) (h:spec_TrmOk.f k l0=some r) :
  Calls Tryd.prog 14 #[.slice A0 l0.length c0] w fun e w'=>e = .returned (.bool r)∧Below w.heap.size w w':=by
 have hu44:=Tryd.underlying44;have HR0:=Am hr0;have HC0:=Am hc0;clear hr0 hc0;have HB:=Am (Below.refl w.heap.size w);have H:(if (l0.length:Int)=0 then (spec_TrmOk.j0 k l0 true) else (spec_TrmOk.j0 k l0 (decide ((l0.length:Int) > 40))))=some r:=h;clear h;have HC2:=Am H;clear H;go_enter Tryd.func14,Tryd.ntmps14;go_upto_region 1 with (fail)
 go_cut [11] (fun v11 wc=>∃ (kq:Nat) (x11_1:Bool),v11 = .bool x11_1∧Aside0 (spec_TrmOk.j0 kq l0 x11_1=some r)∧Aside0 (kq≤k)∧Aside0 (Below w.heap.size w wc))
 case first=>
  have H:=HC2.1;clear HC2;by_cases c3:(l0.length:Int)=0
  ·rw [if_pos c3] at H
   obtain ⟨c3b0,c3b1⟩:=bqP c3;clear c3;(first|rw [c3b0]|rw [c3b1]|(simp only [i64_w,i32_w];rw [c3b0])|skip);have H':=Am H;clear H;go_wp2;go_meet
   case rel=>exact ⟨_,(true),Qf,H',⟨Qt⟩,⟨Qd⟩⟩
  ·rw [if_neg c3] at H
   obtain ⟨c3b0,c3b1⟩:=bqN c3;have c3b2:¬ (l0=[]):=fun h_=>c3 (by rw [h_];rfl)
   (first|rw [c3b0]|rw [c3b1]|(simp only [i64_w,i32_w];rw [c3b0])|skip);have H':=Am H;clear H;go_wp2;go_meet
   case rel=>exact ⟨_,(decide ((l0.length:Int) > 40)),Qf,H',⟨Qt⟩,⟨Qd⟩⟩
 case rest=>
  clear HC2;obtain ⟨kq,x11_1,rfl,HA,HJ1,HB⟩:=hcut;cases kq with
  | zero=>exact absurd HA.1 (by simp [spec_TrmOk.j0])
  | succ kj1=>
   have H:=HA.1;clear HA;simp only [spec_TrmOk.j0] at H;by_cases c4:x11_1=true
   ·subst c4
    rw [if_pos rfl] at H;obtain rfl:=oi H;go_wp2;go_ret;exact ⟨Qg,Qd⟩
   ·replace c4:=Bool.eq_false_iff.mpr c4
    subst c4;rw [if_neg nft] at H;have H':=Am H;clear H;go_wp2
    go_loopg [3] kj1 (fun kq v3 w'=>∃ (x3_2:Int),v3 = .int .i64 x3_2∧Aside0 (spec_TrmOk.l0 kq l0 x3_2=some r)∧Aside0 (kq≤kj1)∧Aside0 (Below w.heap.size w w'))
    case atStart=>exact ⟨(0),Qf,H',⟨Nat.le_refl _⟩,⟨Qd⟩⟩
    case round=>
     clear H';(try clear c4);obtain ⟨x3_2,rfl,HA,HK2,HB⟩:=hrel;cases gk with
     | zero=>exact absurd HA.1 (by simp [spec_TrmOk.l0])
     | succ k2=>
      have H:=HA.1;clear HA;simp only [spec_TrmOk.l0] at H;by_cases c5:x3_2<(l0.length:Int)
      ·rw [if_pos c5] at H
       have c5b0:=decide_eq_true c5;clear c5;obtain ⟨c6,H⟩:=ifS H;have c6b0:=decide_eq_true c6;clear c6;obtain ⟨t117,A7,H⟩:=bnd H;(try dsimp only at H);have HC8:=Am H;clear H;have l:0≤(x3_2:Int):=of_decide_eq_true Qc;have m:x3_2<(l0.length:Int):=of_decide_eq_true Qc;obtain ⟨I,e116,o,q,s⟩:=at_T44 HR0.1 x3_2 l m;cases e116
       replace o:=cB o HB.1;replace q:=cB q HB.1;replace s:=cB s HB.1;obtain ⟨l,m⟩:=et2 l m;go_upto_if 23 with (first|(go_at_call 37;(with_reducible refine (spec_l1Cell.calls k2 ((rd_T44 l0 x3_2).f0) ((rd_T44 l0 x3_2).f1) ((rd_T44 l0 x3_2).f2) t117 _ A7.1).mono ?_);rintro e w9 ⟨rfl,hb⟩;replace HB:=Am (below_step Qd hb);clear hb))
       (try simp only [Act.put,sA_,sZ_,sS_]);have H:=HC8.1;clear HC8;by_cases c10:t117=true
       ·subst c10
        rw [if_pos rfl] at H;have H':=Am H;clear H;go_wp2;go_roundg k2
        case measure=>have:=HJ1.1;have:=HK2.1;omega
        case rel=>exact ⟨(wrap64 (x3_2+1)),Qf,H',⟨Zm⟩,⟨Qd⟩⟩
       ·replace c10:=Bool.eq_false_iff.mpr c10
        subst c10;rw [if_neg nft] at H;obtain rfl:=oi H;go_wp2;go_ret;exact ⟨Qg,Qd⟩
      ·rw [if_neg c5] at H
       have c5b0:=decide_eq_false c5;clear c5;obtain ⟨j,A11,H⟩:=bnd H;(try dsimp only at H);obtain rfl:=oi H
       go_wp2_with (first|(go_at_call 38;(with_reducible refine (spec_l1End.calls k2 _ _ l0 0 j _ ?side1 ?side2 A11.1).mono ?_);(case side1=>exact Z8);(case side2=>exact HC0.1);rintro e w' ⟨rfl,⟨nd,rfl⟩⟩))
       go_ret;exact ⟨Qg,Qd⟩
mutual
def spec_l3Term.j0:Nat→List (S44)→Bool→Option (Bool)
 | 0,_,_=>none
 | k+1,x0,x11=>if x11=true then (some false) else (spec_l3Term.l0 k x0 0)
def spec_l3Term.l0:Nat→List (S44)→Int→Option (Bool)
 | 0,_,_=>none
 | k+1,x0,x3=>if x3<(x0.length:Int) then (if 0≤x3 then (if ((rd_T44 x0 x3).f0)=1 then (if ((rd_T44 x0 x3).f1)≥8 then (some false) else (spec_l3Term.l0 k x0 (wrap64 (x3+1)))) else (spec_l3Term.l0 k x0 (wrap64 (x3+1)))) else (none)) else (some true)
end
def spec_l3Term.f (k:Nat) (l0:List (S44)):Option (Bool):=(spec_TrmOk.f k l0).bind fun t118=>(if t118=true then (spec_l3Term.j0 k l0 (decide ((l0.length:Int) > 12))) else (spec_l3Term.j0 k l0 true))
theorem spec_l3Term.calls (k:Nat) (A0:Option Addr) (c0:Nat) (l0:List (S44)) (r:Bool) (w:World) (hr0:Kd.C k44 w A0 l0.length l0) (hc0:l0.length≤c0) (h:spec_l3Term.f k l0=some r) :
  Calls Tryd.prog 41 #[.slice A0 l0.length c0] w fun e w'=>e = .returned (.bool r)∧Below w.heap.size w w':=by
 have HR0:=Am hr0;have HC0:=Am hc0;clear hr0 hc0;have HB:=Am (Below.refl w.heap.size w);have H:((spec_TrmOk.f k l0).bind fun t118=>(if t118=true then (spec_l3Term.j0 k l0 (decide ((l0.length:Int) > 12))) else (spec_l3Term.j0 k l0 true)))=some r:=h;clear h;have HC2:=Am H;clear H;go_enter Tryd.func41,Tryd.ntmps41;go_upto_region 1 with (fail)
 go_cut [11] (fun v11 wc=>∃ (kq:Nat) (x11_1:Bool),v11 = .bool x11_1∧Aside0 (spec_l3Term.j0 kq l0 x11_1=some r)∧Aside0 (kq≤k)∧Aside0 (Below w.heap.size w wc))
 case first=>
  have H:=HC2.1;clear HC2;obtain ⟨t118,A3,H⟩:=bnd H;(try dsimp only at H);by_cases c4:t118=true
  ·subst c4
   rw [if_pos rfl] at H;have H':=Am H;clear H
   go_wp2_with (first|(go_at_call 14;(with_reducible refine (spec_TrmOk.calls k _ _ l0 true _ ?side1 ?side2 A3.1).mono ?_);(case side1=>exact Z8);(case side2=>exact HC0.1);rintro e w5 ⟨rfl,hb⟩;replace HB:=Am (below_step Qd hb);clear hb))
   go_meet
   case rel=>exact ⟨_,(decide ((l0.length:Int) > 12)),Qf,H',⟨Qt⟩,⟨Qd⟩⟩
  ·replace c4:=Bool.eq_false_iff.mpr c4
   subst c4;rw [if_neg nft] at H;have H':=Am H;clear H
   go_wp2_with (first|(go_at_call 14;(with_reducible refine (spec_TrmOk.calls k _ _ l0 false _ ?side1 ?side2 A3.1).mono ?_);(case side1=>exact Z8);(case side2=>exact HC0.1);rintro e w6 ⟨rfl,hb⟩;replace HB:=Am (below_step Qd hb);clear hb))
   go_meet
   case rel=>exact ⟨_,(true),Qf,H',⟨Qt⟩,⟨Qd⟩⟩
 case rest=>
  clear HC2;obtain ⟨kq,x11_1,rfl,HA,HJ1,HB⟩:=hcut;cases kq with
  | zero=>exact absurd HA.1 (by simp [spec_l3Term.j0])
  | succ kj1=>
   have H:=HA.1;clear HA;simp only [spec_l3Term.j0] at H;by_cases c7:x11_1=true
   ·subst c7
    rw [if_pos rfl] at H;obtain rfl:=oi H;go_wp2;go_ret;exact ⟨Qg,Qd⟩
   ·replace c7:=Bool.eq_false_iff.mpr c7
    subst c7;rw [if_neg nft] at H;have H':=Am H;clear H;go_wp2
    go_loopg [3] kj1 (fun kq v3 w'=>∃ (x3_2:Int),v3 = .int .i64 x3_2∧Aside0 (spec_l3Term.l0 kq l0 x3_2=some r)∧Aside0 (kq≤kj1)∧Aside0 (Below w.heap.size w w'))
    case atStart=>exact ⟨(0),Qf,H',⟨Nat.le_refl _⟩,⟨Qd⟩⟩
    case round=>
     clear H';(try clear c7);obtain ⟨x3_2,rfl,HA,HK2,HB⟩:=hrel;cases gk with
     | zero=>exact absurd HA.1 (by simp [spec_l3Term.l0])
     | succ k2=>
      have H:=HA.1;clear HA;simp only [spec_l3Term.l0] at H;by_cases c8:x3_2<(l0.length:Int)
      ·rw [if_pos c8] at H
       have c8b0:=decide_eq_true c8;clear c8;obtain ⟨c9,H⟩:=ifS H;have c9b0:=decide_eq_true c9;clear c9;by_cases c10:((rd_T44 l0 x3_2).f0)=1
       ·rw [if_pos c10] at H
        obtain ⟨c10b0,c10b1⟩:=bqP c10;clear c10;by_cases c11:((rd_T44 l0 x3_2).f1)≥8
        ·rw [if_pos c11] at H
         have c11b0:=decide_eq_true c11;clear c11;obtain rfl:=oi H;have p119:0≤(x3_2:Int):=of_decide_eq_true Qc;have q119:x3_2<(l0.length:Int):=of_decide_eq_true Qc;obtain ⟨ad119,e119,hx119_0,hx119_1,hx119_2⟩:=at_T44 HR0.1 x3_2 p119 q119;cases e119
         replace hx119_0:=cB hx119_0 HB.1;replace hx119_1:=cB hx119_1 HB.1;replace hx119_2:=cB hx119_2 HB.1;obtain ⟨p119,q119⟩:=et2 p119 q119;have p120:0≤(x3_2:Int):=of_decide_eq_true Qc;have q120:x3_2<(l0.length:Int):=of_decide_eq_true Qc;obtain ⟨ad120,e120,hx120_0,hx120_1,hx120_2⟩:=at_T44 HR0.1 x3_2 p120 q120;obtain rfl:ad119=ad120:=(by injection e120);replace hx120_0:=cB hx120_0 HB.1;replace hx120_1:=cB hx120_1 HB.1;replace hx120_2:=cB hx120_2 HB.1;obtain ⟨p120,q120⟩:=et2 p120 q120;go_wp2;go_ret;exact ⟨Qg,Qd⟩
        ·rw [if_neg c11] at H
         have c11b0:=decide_eq_false c11;clear c11;have H':=Am H;clear H;have p119:0≤(x3_2:Int):=of_decide_eq_true Qc;have q119:x3_2<(l0.length:Int):=of_decide_eq_true Qc;obtain ⟨ad119,e119,hx119_0,hx119_1,hx119_2⟩:=at_T44 HR0.1 x3_2 p119 q119;cases e119
         replace hx119_0:=cB hx119_0 HB.1;replace hx119_1:=cB hx119_1 HB.1;replace hx119_2:=cB hx119_2 HB.1;obtain ⟨p119,q119⟩:=et2 p119 q119;have p120:0≤(x3_2:Int):=of_decide_eq_true Qc;have q120:x3_2<(l0.length:Int):=of_decide_eq_true Qc;obtain ⟨ad120,e120,hx120_0,hx120_1,hx120_2⟩:=at_T44 HR0.1 x3_2 p120 q120;obtain rfl:ad119=ad120:=(by injection e120);replace hx120_0:=cB hx120_0 HB.1;replace hx120_1:=cB hx120_1 HB.1;replace hx120_2:=cB hx120_2 HB.1;obtain ⟨p120,q120⟩:=et2 p120 q120;go_wp2;go_roundg k2
         case measure=>have:=HJ1.1;have:=HK2.1;omega
         case rel=>exact ⟨(wrap64 (x3_2+1)),Qf,H',⟨Zm⟩,⟨Qd⟩⟩
       ·rw [if_neg c10] at H
        obtain ⟨c10b0,c10b1⟩:=bqN c10;have H':=Am H;clear H;have p119:0≤(x3_2:Int):=of_decide_eq_true Qc;have q119:x3_2<(l0.length:Int):=of_decide_eq_true Qc;obtain ⟨ad119,e119,hx119_0,hx119_1,hx119_2⟩:=at_T44 HR0.1 x3_2 p119 q119;cases e119
        replace hx119_0:=cB hx119_0 HB.1;replace hx119_1:=cB hx119_1 HB.1;replace hx119_2:=cB hx119_2 HB.1;obtain ⟨p119,q119⟩:=et2 p119 q119;go_wp2;go_roundg k2
        case measure=>have:=HJ1.1;have:=HK2.1;omega
        case rel=>exact ⟨(wrap64 (x3_2+1)),Qf,H',⟨Zm⟩,⟨Qd⟩⟩
      ·rw [if_neg c8] at H
       have c8b0:=decide_eq_false c8;clear c8;obtain rfl:=oi H;go_wp2;go_ret;exact ⟨Qg,Qd⟩
def spec_GoalOk.j0:Nat→Int→Bool→Int→List (S44)→List (S44)→List (S44)→Option (Bool)
 | 0,_,_,_,_,_,_=>none
 | k+1,x4,x39,x122000,x122001,x122002,x122003=>if x39=true then ((spec_l3Term.f k x122001).bind fun t124=>(if t124=true then ((spec_l3Term.f k x122002).bind fun t125=>(if t125=true then (some ((x122003.length:Int) == 0)) else (some false))) else (some false))) else (if x4=5 then ((spec_l3Term.f k x122001).bind fun t126=>(if t126=true then ((spec_l3Term.f k x122002).bind fun t127=>(if t127=true then ((spec_l3Term.f k x122003).bind fun t128=>(some t128)) else (some false))) else (some false))) else (some false))
def spec_GoalOk.f (k:Nat) (a0_0:Int) (l0_1:List (S44)) (l0_2:List (S44)) (l0_3:List (S44)):Option (Bool):=if a0_0=1 then ((spec_l3Term.f k l0_1).bind fun t122=>(if t122=true then ((spec_l3Call.f l0_1).bind fun t123=>(if t123=true then (some ((wrap64 ((l0_2.length:Int)+(l0_3.length:Int))) == 0)) else (some false))) else (some false))) else (if a0_0=3 then (some ((wrap64 ((wrap64 ((l0_1.length:Int)+(l0_2.length:Int)))+(l0_3.length:Int))) == 0)) else (if a0_0=2 then (spec_GoalOk.j0 k a0_0 (a0_0 == 2) a0_0 l0_1 l0_2 l0_3) else (spec_GoalOk.j0 k a0_0 (a0_0 == 4) a0_0 l0_1 l0_2 l0_3)))
theorem spec_GoalOk.calls (k:Nat) (a0_0:Int) (A0_1:Option Addr) (c0_1:Nat) (l0_1:List (S44)) (A0_2:Option Addr) (c0_2:Nat) (l0_2:List (S44)) (A0_3:Option Addr) (c0_3:Nat) (l0_3:List (S44)) (r:Bool) (w:World) (hr0_1:Kd.C k44 w A0_1 l0_1.length l0_1) (hc0_1:l0_1.length≤c0_1) (hr0_2:Kd.C k44 w A0_2 l0_2.length l0_2) (hc0_2:l0_2.length≤c0_2) (hr0_3:Kd.C k44 w A0_3 l0_3.length l0_3) (hc0_3:l0_3.length≤c0_3) (h:spec_GoalOk.f k a0_0 l0_1 l0_2 l0_3=some r) :
  Calls Tryd.prog 18 #[.agg #[.int .i64 a0_0,.slice A0_1 l0_1.length c0_1,.slice A0_2 l0_2.length c0_2,.slice A0_3 l0_3.length c0_3]] w fun e w'=>e = .returned (.bool r)∧Below w.heap.size w w':=by
 have hu29:=Tryd.underlying29;have HR0_1:=Am hr0_1;have HC0_1:=Am hc0_1;clear hr0_1 hc0_1;have HR0_2:=Am hr0_2;have HC0_2:=Am hc0_2;clear hr0_2 hc0_2;have HR0_3:=Am hr0_3;have HC0_3:=Am hc0_3;clear hr0_3 hc0_3;have HB:=Am (Below.refl w.heap.size w);have H:(if a0_0=1 then ((spec_l3Term.f k l0_1).bind fun t122=>(if t122=true then ((spec_l3Call.f l0_1).bind fun t123=>(if t123=true then (some ((wrap64 ((l0_2.length:Int)+(l0_3.length:Int))) == 0)) else (some false))) else (some false))) else (if a0_0=3 then (some ((wrap64 ((wrap64 ((l0_1.length:Int)+(l0_2.length:Int)))+(l0_3.length:Int))) == 0)) else (if a0_0=2 then (spec_GoalOk.j0 k a0_0 (a0_0 == 2) a0_0 l0_1 l0_2 l0_3) else (spec_GoalOk.j0 k a0_0 (a0_0 == 4) a0_0 l0_1 l0_2 l0_3))))=some r:=h;clear h;have HC2:=Am H;clear H;go_enter Tryd.func18,Tryd.ntmps18;go_upto_if 5 with (first|((with_reducible refine gate_dst (N:=1) rfl ?_);(try (refine gate_guard (by rfl) ?_;dsimp only));refine box_event ?hg (N:=1) ?hd (cs:=#[.int .i64 a0_0,.slice A0_1 l0_1.length c0_1,.slice A0_2 l0_2.length c0_2,.slice A0_3 l0_3.length c0_3]) (t:=29) ?hr ?_;(case hd=>rfl);(case hg=>rfl);(case hr=>first|(go_simp;done)|(go_simp;rfl));intro gb121 hg w3 hbox hb;have n_:=as3 (below_step Qd hb) (hbox) ((by rw [hg];exact (below_size Qd):w.heap.size≤gb121));clear HB;obtain ⟨HB,BK121,GE121⟩:=n_;clear hb hbox hg;obtain ⟨hcz4_0,hcz4_1,hcz4_2,A,hfz4_0,hfz4_1,hfz4_2,B⟩:=blk4 BK121.1))
 (try simp only [Act.put,sA_,sZ_,sS_]);have H:=HC2.1;clear HC2;by_cases c5:a0_0=1
 ·rw [if_pos c5] at H
  obtain ⟨c5b0,c5b1⟩:=bqP c5;clear c5;(first|rw [c5b0]|rw [c5b1]|(simp only [i64_w,i32_w];rw [c5b0])|skip);obtain ⟨t122,A6,H⟩:=bnd H;(try dsimp only at H);by_cases c7:t122=true
  ·subst c7
   rw [if_pos rfl] at H;obtain ⟨t123,u,H⟩:=bnd H;(try dsimp only at H);by_cases c9:t123=true
   ·subst c9
    rw [if_pos rfl] at H;obtain rfl:=oi H;obtain ⟨hcz10_0,hcz10_1,hcz10_2,hcz10_3,hfz10_0,hfz10_1,hfz10_2,hfz10_3⟩:=blk4 BK121.1
    go_wp2_with (first|(go_at_call 41;(with_reducible refine (spec_l3Term.calls k _ _ l0_1 true _ ?side1 ?side2 A6.1).mono ?_);(case side1=>exact Qr);(case side2=>exact HC0_1.1);rintro e w11 ⟨rfl,hb⟩;have n_:=as2 (blk_below (blkp BK121.1) hb) (below_step Qv hb);clear BK121 HB;obtain ⟨BK121,HB⟩:=n_;clear hb;obtain ⟨hcz12_0,hcz12_1,hcz12_2,hcz12_3,hfz12_0,hfz12_1,hfz12_2,hfz12_3⟩:=blk4 BK121.1)|(go_at_call 33;(with_reducible refine (spec_l3Call.calls _ _ l0_1 true _ ?side1 ?side2 u.1).mono ?_);(case side1=>exact Qr);(case side2=>exact HC0_1.1);rintro e w' ⟨rfl,⟨nd,rfl⟩⟩))
    go_ret;exact ⟨Qg,Qv⟩
   ·replace c9:=Bool.eq_false_iff.mpr c9
    subst c9;rw [if_neg nft] at H;obtain rfl:=oi H;obtain ⟨hcz13_0,hcz13_1,hcz13_2,J,hfz13_0,hfz13_1,hfz13_2,K⟩:=blk4 BK121.1
    go_wp2_with (first|(go_at_call 41;(with_reducible refine (spec_l3Term.calls k _ _ l0_1 true _ ?side1 ?side2 A6.1).mono ?_);(case side1=>exact Qr);(case side2=>exact HC0_1.1);rintro e w14 ⟨rfl,hb⟩;have n_:=as2 (blk_below (blkp BK121.1) hb) (below_step Qv hb);clear BK121 HB;obtain ⟨BK121,HB⟩:=n_;clear hb;obtain ⟨hcz15_0,hcz15_1,hcz15_2,L,hfz15_0,hfz15_1,hfz15_2,O⟩:=blk4 BK121.1)|(go_at_call 33;(with_reducible refine (spec_l3Call.calls _ _ l0_1 false _ ?side1 ?side2 u.1).mono ?_);(case side1=>exact Qr);(case side2=>exact HC0_1.1);rintro e w' ⟨rfl,⟨nd,rfl⟩⟩))
    go_ret;exact ⟨Qg,Qv⟩
  ·replace c7:=Bool.eq_false_iff.mpr c7
   subst c7;rw [if_neg nft] at H;obtain rfl:=oi H;obtain ⟨hcz16_0,hcz16_1,hcz16_2,hcz16_3,hfz16_0,hfz16_1,hfz16_2,hfz16_3⟩:=blk4 BK121.1
   go_wp2_with (first|(go_at_call 41;(with_reducible refine (spec_l3Term.calls k _ _ l0_1 false _ ?side1 ?side2 A6.1).mono ?_);(case side1=>exact Qr);(case side2=>exact HC0_1.1);rintro e w17 ⟨rfl,hb⟩;have n_:=as2 (blk_below (blkp BK121.1) hb) (below_step Qv hb);clear BK121 HB;obtain ⟨BK121,HB⟩:=n_;clear hb))
   go_ret;exact ⟨Qg,Qv⟩
 ·rw [if_neg c5] at H
  obtain ⟨c5b0,c5b1⟩:=bqN c5;(first|rw [c5b0]|rw [c5b1]|(simp only [i64_w,i32_w];rw [c5b0])|skip);by_cases c18:a0_0=3
  ·rw [if_pos c18] at H
   obtain ⟨c18b0,c18b1⟩:=bqP c18;clear c18;obtain rfl:=oi H;obtain ⟨hcz19_0,hcz19_1,hcz19_2,Q,hfz19_0,hfz19_1,hfz19_2,U⟩:=blk4 BK121.1;go_wp2;go_ret;exact ⟨Qg,Qv⟩
  ·rw [if_neg c18] at H
   obtain ⟨c18b0,c18b1⟩:=bqN c18;have g:=Am H;clear H;go_upto_if 39 with (fail)
   go_cut [39] (fun v39 wc=>∃ (kq:Nat) (i:Bool),v39 = .bool i∧Aside0 (spec_GoalOk.j0 kq a0_0 i a0_0 l0_1 l0_2 l0_3=some r)∧Aside0 (kq≤k)∧Aside0 (wc.heap[gb121]?=some (.cells #[.int .i64 a0_0,(.slice A0_1 l0_1.length c0_1),(.slice A0_2 l0_2.length c0_2),(.slice A0_3 l0_3.length c0_3)] 29 (0,0)))∧Aside0 (Below w.heap.size w wc))
   case first=>
    have H:=g.1;clear g;by_cases c21:a0_0=2
    ·rw [if_pos c21] at H
     obtain ⟨c21b0,c21b1⟩:=bqP c21;clear c21;(first|rw [c21b0]|rw [c21b1]|(simp only [i64_w,i32_w];rw [c21b0])|skip);have H':=Am H;clear H;go_wp2;go_meet
     case rel=>exact ⟨_,((a0_0 == 2)),Qf,H',⟨Qt⟩,⟨blkp BK121.1⟩,⟨Qv⟩⟩
    ·rw [if_neg c21] at H
     obtain ⟨c21b0,c21b1⟩:=bqN c21;(first|rw [c21b0]|rw [c21b1]|(simp only [i64_w,i32_w];rw [c21b0])|skip);have H':=Am H;clear H;go_wp2;go_meet
     case rel=>exact ⟨_,((a0_0 == 4)),Qf,H',⟨Qt⟩,⟨blkp BK121.1⟩,⟨Qv⟩⟩
   case rest=>
    clear g;(try clear c5);(try clear c5b0);(try clear c5b1);(try clear c18);(try clear c18b0);(try clear c18b1);(try clear hcz4_0);(try clear hcz4_1);(try clear hcz4_2);(try clear A);(try clear hfz4_0);(try clear hfz4_1);(try clear hfz4_2);(try clear B);obtain ⟨kq,i,rfl,HA,W,BK121,HB⟩:=hcut;cases kq with
    | zero=>exact absurd HA.1 (by simp [spec_GoalOk.j0])
    | succ b=>
     have H:=HA.1;clear HA;simp only [spec_GoalOk.j0] at H;by_cases c22:i=true
     ·subst c22
      rw [if_pos rfl] at H;obtain ⟨t124,A23,H⟩:=bnd H;(try dsimp only at H);by_cases c24:t124=true
      ·subst c24
       rw [if_pos rfl] at H;obtain ⟨t125,x,H⟩:=bnd H;(try dsimp only at H);by_cases c26:t125=true
       ·subst c26
        rw [if_pos rfl] at H;obtain rfl:=oi H;obtain ⟨hcz27_0,hcz27_1,hcz27_2,hcz27_3,hfz27_0,hfz27_1,hfz27_2,hfz27_3⟩:=blk4 BK121.1
        go_wp2_with (first|(go_at_call 41;(with_reducible refine (spec_l3Term.calls b _ _ l0_1 true _ ?side1 ?side2 A23.1).mono ?_);(case side1=>exact Qr);(case side2=>exact HC0_1.1);rintro e w28 ⟨rfl,hb⟩;have n_:=as2 (blk_below (blkp BK121.1) hb) (below_step Qv hb);clear BK121 HB;obtain ⟨BK121,HB⟩:=n_;clear hb;obtain ⟨hcz29_0,hcz29_1,hcz29_2,hcz29_3,hfz29_0,hfz29_1,hfz29_2,hfz29_3⟩:=blk4 BK121.1)|(go_at_call 41;(with_reducible refine (spec_l3Term.calls b _ _ l0_2 true _ ?side1 ?side2 x.1).mono ?_);(case side1=>exact QO);(case side2=>exact HC0_2.1);rintro e w30 ⟨rfl,hb⟩;have n_:=as2 (blk_below (blkp BK121.1) hb) (below_step Qv hb);clear BK121 HB;obtain ⟨BK121,HB⟩:=n_;clear hb;obtain ⟨hcz31_0,hcz31_1,hcz31_2,X,hfz31_0,hfz31_1,hfz31_2,Y⟩:=blk4 BK121.1))
        go_ret;exact ⟨Qg,Qv⟩
       ·replace c26:=Bool.eq_false_iff.mpr c26
        subst c26;rw [if_neg nft] at H;obtain rfl:=oi H;obtain ⟨hcz32_0,hcz32_1,hcz32_2,hcz32_3,hfz32_0,hfz32_1,hfz32_2,hfz32_3⟩:=blk4 BK121.1
        go_wp2_with (first|(go_at_call 41;(with_reducible refine (spec_l3Term.calls b _ _ l0_1 true _ ?side1 ?side2 A23.1).mono ?_);(case side1=>exact Qr);(case side2=>exact HC0_1.1);rintro e w33 ⟨rfl,hb⟩;have n_:=as2 (blk_below (blkp BK121.1) hb) (below_step Qv hb);clear BK121 HB;obtain ⟨BK121,HB⟩:=n_;clear hb;obtain ⟨hcz34_0,hcz34_1,hcz34_2,hcz34_3,hfz34_0,hfz34_1,hfz34_2,hfz34_3⟩:=blk4 BK121.1)|(go_at_call 41;(with_reducible refine (spec_l3Term.calls b _ _ l0_2 false _ ?side1 ?side2 x.1).mono ?_);(case side1=>exact QO);(case side2=>exact HC0_2.1);rintro e w35 ⟨rfl,hb⟩;have n_:=as2 (blk_below (blkp BK121.1) hb) (below_step Qv hb);clear BK121 HB;obtain ⟨BK121,HB⟩:=n_;clear hb))
        go_ret;exact ⟨Qg,Qv⟩
      ·replace c24:=Bool.eq_false_iff.mpr c24
       subst c24;rw [if_neg nft] at H;obtain rfl:=oi H;obtain ⟨hcz36_0,hcz36_1,hcz36_2,Z,hfz36_0,hfz36_1,hfz36_2,ad⟩:=blk4 BK121.1
       go_wp2_with (first|(go_at_call 41;(with_reducible refine (spec_l3Term.calls b _ _ l0_1 false _ ?side1 ?side2 A23.1).mono ?_);(case side1=>exact Qr);(case side2=>exact HC0_1.1);rintro e w37 ⟨rfl,hb⟩;have n_:=as2 (blk_below (blkp BK121.1) hb) (below_step Qv hb);clear BK121 HB;obtain ⟨BK121,HB⟩:=n_;clear hb))
       go_ret;exact ⟨Qg,Qv⟩
     ·replace c22:=Bool.eq_false_iff.mpr c22
      subst c22;rw [if_neg nft] at H;by_cases c38:a0_0=5
      ·rw [if_pos c38] at H
       obtain ⟨c38b0,c38b1⟩:=bqP c38;clear c38;obtain ⟨t126,A39,H⟩:=bnd H;(try dsimp only at H);by_cases c40:t126=true
       ·subst c40
        rw [if_pos rfl] at H;obtain ⟨t127,y,H⟩:=bnd H;(try dsimp only at H);by_cases c42:t127=true
        ·subst c42
         rw [if_pos rfl] at H;obtain ⟨t128,D,H⟩:=bnd H;(try dsimp only at H);obtain rfl:=oi H;obtain ⟨hcz44_0,hcz44_1,hcz44_2,hcz44_3,hfz44_0,hfz44_1,hfz44_2,hfz44_3⟩:=blk4 BK121.1
         go_wp2_with (first|(go_at_call 41;(with_reducible refine (spec_l3Term.calls b _ _ l0_1 true _ ?side1 ?side2 A39.1).mono ?_);(case side1=>exact Qr);(case side2=>exact HC0_1.1);rintro e w45 ⟨rfl,hb⟩;have n_:=as2 (blk_below (blkp BK121.1) hb) (below_step Qv hb);clear BK121 HB;obtain ⟨BK121,HB⟩:=n_;clear hb;obtain ⟨hcz46_0,hcz46_1,hcz46_2,aB,hfz46_0,hfz46_1,hfz46_2,aF⟩:=blk4 BK121.1)|(go_at_call 41;(with_reducible refine (spec_l3Term.calls b _ _ l0_2 true _ ?side1 ?side2 y.1).mono ?_);(case side1=>exact QO);(case side2=>exact HC0_2.1);rintro e w47 ⟨rfl,hb⟩;have n_:=as2 (blk_below (blkp BK121.1) hb) (below_step Qv hb);clear BK121 HB;obtain ⟨BK121,HB⟩:=n_;clear hb;obtain ⟨aL,aO,aP,aR,aS,bs,bY,bZ⟩:=blk4 BK121.1)|(go_at_call 41;(with_reducible refine (spec_l3Term.calls b _ _ l0_3 t128 _ ?side1 ?side2 D.1).mono ?_);(case side1=>exact Zo);(case side2=>exact HC0_3.1);rintro e b0 ⟨rfl,hb⟩;have n_:=as2 (blk_below (blkp BK121.1) hb) (below_step Qv hb);clear BK121 HB;obtain ⟨BK121,HB⟩:=n_;clear hb))
         go_ret;exact ⟨Qg,Qv⟩
        ·replace c42:=Bool.eq_false_iff.mpr c42
         subst c42;rw [if_neg nft] at H;obtain rfl:=oi H;obtain ⟨hcz50_0,hcz50_1,hcz50_2,b1,hfz50_0,hfz50_1,hfz50_2,b2⟩:=blk4 BK121.1
         go_wp2_with (first|(go_at_call 41;(with_reducible refine (spec_l3Term.calls b _ _ l0_1 true _ ?side1 ?side2 A39.1).mono ?_);(case side1=>exact Qr);(case side2=>exact HC0_1.1);rintro e b3 ⟨rfl,hb⟩;have n_:=as2 (blk_below (blkp BK121.1) hb) (below_step Qv hb);clear BK121 HB;obtain ⟨BK121,HB⟩:=n_;clear hb;obtain ⟨b4,b5,b6,b7,b8,b9,ca,cb⟩:=blk4 BK121.1)|(go_at_call 41;(with_reducible refine (spec_l3Term.calls b _ _ l0_2 false _ ?side1 ?side2 y.1).mono ?_);(case side1=>exact QO);(case side2=>exact HC0_2.1);rintro e cc ⟨rfl,hb⟩;have n_:=as2 (blk_below (blkp BK121.1) hb) (below_step Qv hb);clear BK121 HB;obtain ⟨BK121,HB⟩:=n_;clear hb))
         go_ret;exact ⟨Qg,Qv⟩
       ·replace c40:=Bool.eq_false_iff.mpr c40
        subst c40;rw [if_neg nft] at H;obtain rfl:=oi H;obtain ⟨hcz54_0,hcz54_1,hcz54_2,cd,hfz54_0,hfz54_1,hfz54_2,ce⟩:=blk4 BK121.1
        go_wp2_with (first|(go_at_call 41;(with_reducible refine (spec_l3Term.calls b _ _ l0_1 false _ ?side1 ?side2 A39.1).mono ?_);(case side1=>exact Qr);(case side2=>exact HC0_1.1);rintro e w55 ⟨rfl,hb⟩;have n_:=as2 (blk_below (blkp BK121.1) hb) (below_step Qv hb);clear BK121 HB;obtain ⟨BK121,HB⟩:=n_;clear hb))
        go_ret;exact ⟨Qg,Qv⟩
      ·rw [if_neg c38] at H
       obtain ⟨c38b0,c38b1⟩:=bqN c38;obtain rfl:=oi H;go_wp2;go_ret;exact ⟨Qg,Qv⟩
mutual
def spec_l3Clause.j0:Nat→Bool→List (S44)→List (S29)→Option (Bool)
 | 0,_,_,_=>none
 | k+1,x19,x130000,x130001=>if x19=true then (some false) else (spec_l3Clause.l0 k 0 x130000 x130001)
def spec_l3Clause.l0:Nat→Int→List (S44)→List (S29)→Option (Bool)
 | 0,_,_,_=>none
 | k+1,x3,x130000,x130001=>if x3<(x130001.length:Int) then (if 0≤x3 then ((spec_GoalOk.f k ((rd_T29 x130001 x3).f0) ((rd_T29 x130001 x3).f1) ((rd_T29 x130001 x3).f2) ((rd_T29 x130001 x3).f3)).bind fun t133=>(if t133=true then (spec_l3Clause.l0 k (wrap64 (x3+1)) x130000 x130001) else (some false))) else (none)) else (some true)
end
def spec_l3Clause.f (k:Nat) (l0_0:List (S44)) (l0_1:List (S29)):Option (Bool):=(spec_l3Term.f k l0_0).bind fun t130=>(if t130=true then ((spec_l3Call.f l0_0).bind fun t131=>(if t131=true then (spec_l3Clause.j0 k (decide ((l0_1.length:Int) > 4)) l0_0 l0_1) else (spec_l3Clause.j0 k true l0_0 l0_1))) else (spec_l3Clause.j0 k true l0_0 l0_1))
theorem spec_l3Clause.calls (k:Nat) (A0_0:Option Addr) (c0_0:Nat) (l0_0:List (S44)) (A0_1:Option Addr) (c0_1:Nat) (l0_1:List (S29)) (r:Bool) (w:World) (hr0_0:Kd.C k44 w A0_0 l0_0.length l0_0) (hc0_0:l0_0.length≤c0_0) (hr0_1:Kd.C k29 w A0_1 l0_1.length l0_1) (hc0_1:l0_1.length≤c0_1) (h:spec_l3Clause.f k l0_0 l0_1=some r) :
  Calls Tryd.prog 35 #[.agg #[.slice A0_0 l0_0.length c0_0,.slice A0_1 l0_1.length c0_1]] w fun e w'=>e = .returned (.bool r)∧Below w.heap.size w w':=by
 have hu69:=Tryd.underlying69;have hu29:=Tryd.underlying29;have HR0_0:=Am hr0_0;have HC0_0:=Am hc0_0;clear hr0_0 hc0_0;have HR0_1:=Am hr0_1;have HC0_1:=Am hc0_1;clear hr0_1 hc0_1;have HB:=Am (Below.refl w.heap.size w);have H:((spec_l3Term.f k l0_0).bind fun t130=>(if t130=true then ((spec_l3Call.f l0_0).bind fun t131=>(if t131=true then (spec_l3Clause.j0 k (decide ((l0_1.length:Int) > 4)) l0_0 l0_1) else (spec_l3Clause.j0 k true l0_0 l0_1))) else (spec_l3Clause.j0 k true l0_0 l0_1)))=some r:=h;clear h;have HC2:=Am H;clear H;go_enter Tryd.func35,Tryd.ntmps35;go_upto_region 1 with (first|((with_reducible refine gate_dst (N:=1) rfl ?_);(try (refine gate_guard (by rfl) ?_;dsimp only));refine box_event ?hg (N:=1) ?hd (cs:=#[.slice A0_0 l0_0.length c0_0,.slice A0_1 l0_1.length c0_1]) (t:=69) ?hr ?_;(case hd=>rfl);(case hg=>rfl);(case hr=>first|(go_simp;done)|(go_simp;rfl));intro gb129 hg w3 hbox hb;have n_:=as3 (below_step Qd hb) (hbox) ((by rw [hg];exact (below_size Qd):w.heap.size≤gb129));clear HB;obtain ⟨HB,BK129,GE129⟩:=n_;clear hb hbox hg))
 (try simp only [Act.put,sA_,sZ_,sS_]);go_cut [19] (fun v19 wc=>∃ (kq:Nat) (x19_1:Bool),v19 = .bool x19_1∧Aside0 (spec_l3Clause.j0 kq x19_1 l0_0 l0_1=some r)∧Aside0 (kq≤k)∧Aside0 (wc.heap[gb129]?=some (.cells #[(.slice A0_0 l0_0.length c0_0),(.slice A0_1 l0_1.length c0_1)] 69 (0,0)))∧Aside0 (Below w.heap.size w wc))
 case first=>
  have H:=HC2.1;clear HC2;obtain ⟨t130,A4,H⟩:=bnd H;(try dsimp only at H);by_cases c5:t130=true
  ·subst c5
   rw [if_pos rfl] at H;obtain ⟨t131,A6,H⟩:=bnd H;(try dsimp only at H);by_cases c7:t131=true
   ·subst c7
    rw [if_pos rfl] at H;have H':=Am H;clear H;obtain ⟨hcz8_0,hcz8_1,hfz8_0,hfz8_1⟩:=blk2 BK129.1
    go_wp2_with (first|(go_at_call 41;(with_reducible refine (spec_l3Term.calls k _ _ l0_0 true _ ?side1 ?side2 A4.1).mono ?_);(case side1=>exact Qz);(case side2=>exact HC0_0.1);rintro e w9 ⟨rfl,hb⟩;have n_:=as2 (blk_below (blkp BK129.1) hb) (below_step QZ hb);clear BK129 HB;obtain ⟨BK129,HB⟩:=n_;clear hb;obtain ⟨hcz10_0,hcz10_1,hfz10_0,hfz10_1⟩:=blk2 BK129.1)|(go_at_call 33;(with_reducible refine (spec_l3Call.calls _ _ l0_0 true _ ?side1 ?side2 A6.1).mono ?_);(case side1=>exact Qz);(case side2=>exact HC0_0.1);rintro e w' ⟨rfl,⟨nd,rfl⟩⟩))
    go_meet
    case rel=>exact ⟨_,(decide ((l0_1.length:Int) > 4)),Qf,H',⟨Qt⟩,⟨blkp BK129.1⟩,⟨QZ⟩⟩
   ·replace c7:=Bool.eq_false_iff.mpr c7
    subst c7;rw [if_neg nft] at H;have H':=Am H;clear H;obtain ⟨hcz11_0,hcz11_1,hfz11_0,hfz11_1⟩:=blk2 BK129.1
    go_wp2_with (first|(go_at_call 41;(with_reducible refine (spec_l3Term.calls k _ _ l0_0 true _ ?side1 ?side2 A4.1).mono ?_);(case side1=>exact Qz);(case side2=>exact HC0_0.1);rintro e w12 ⟨rfl,hb⟩;have n_:=as2 (blk_below (blkp BK129.1) hb) (below_step QZ hb);clear BK129 HB;obtain ⟨BK129,HB⟩:=n_;clear hb;obtain ⟨hcz13_0,hcz13_1,hfz13_0,hfz13_1⟩:=blk2 BK129.1)|(go_at_call 33;(with_reducible refine (spec_l3Call.calls _ _ l0_0 false _ ?side1 ?side2 A6.1).mono ?_);(case side1=>exact Qz);(case side2=>exact HC0_0.1);rintro e w' ⟨rfl,⟨nd,rfl⟩⟩))
    go_meet
    case rel=>exact ⟨_,(true),Qf,H',⟨Qt⟩,⟨blkp BK129.1⟩,⟨QZ⟩⟩
  ·replace c5:=Bool.eq_false_iff.mpr c5
   subst c5;rw [if_neg nft] at H;have H':=Am H;clear H;obtain ⟨hcz14_0,hcz14_1,hfz14_0,hfz14_1⟩:=blk2 BK129.1
   go_wp2_with (first|(go_at_call 41;(with_reducible refine (spec_l3Term.calls k _ _ l0_0 false _ ?side1 ?side2 A4.1).mono ?_);(case side1=>exact Qz);(case side2=>exact HC0_0.1);rintro e w15 ⟨rfl,hb⟩;have n_:=as2 (blk_below (blkp BK129.1) hb) (below_step QZ hb);clear BK129 HB;obtain ⟨BK129,HB⟩:=n_;clear hb))
   go_meet
   case rel=>exact ⟨_,(true),Qf,H',⟨Qt⟩,⟨blkp BK129.1⟩,⟨QZ⟩⟩
 case rest=>
  clear HC2;obtain ⟨kq,x19_1,rfl,HA,HJ1,BK129,HB⟩:=hcut;cases kq with
  | zero=>exact absurd HA.1 (by simp [spec_l3Clause.j0])
  | succ kj1=>
   have H:=HA.1;clear HA;simp only [spec_l3Clause.j0] at H;by_cases c16:x19_1=true
   ·subst c16
    rw [if_pos rfl] at H;obtain rfl:=oi H;go_wp2;go_ret;exact ⟨Qg,QZ⟩
   ·replace c16:=Bool.eq_false_iff.mpr c16
    subst c16;rw [if_neg nft] at H;have H':=Am H;clear H;go_wp2
    go_loopg [3] kj1 (fun kq v3 w'=>∃ (x3_2:Int),v3 = .int .i64 x3_2∧Aside0 (spec_l3Clause.l0 kq x3_2 l0_0 l0_1=some r)∧Aside0 (kq≤kj1)∧Aside0 (w'.heap[gb129]?=some (.cells #[(.slice A0_0 l0_0.length c0_0),(.slice A0_1 l0_1.length c0_1)] 69 (0,0)))∧Aside0 (Below w.heap.size w w'))
    case atStart=>exact ⟨(0),Qf,H',⟨Nat.le_refl _⟩,⟨blkp BK129.1⟩,⟨QZ⟩⟩
    case round=>
     clear H';(try clear c16);obtain ⟨x3_2,rfl,HA,HK2,BK129,HB⟩:=hrel;cases gk with
     | zero=>exact absurd HA.1 (by simp [spec_l3Clause.l0])
     | succ k2=>
      have H:=HA.1;clear HA;simp only [spec_l3Clause.l0] at H;by_cases c17:x3_2<(l0_1.length:Int)
      ·rw [if_pos c17] at H
       have c17b0:=decide_eq_true c17;clear c17;obtain ⟨c18,H⟩:=ifS H;have c18b0:=decide_eq_true c18;clear c18;obtain ⟨t133,A19,H⟩:=bnd H;(try dsimp only at H);have g:=Am H;clear H;obtain ⟨hcz21_0,hcz21_1,hfz21_0,hfz21_1⟩:=blk2 BK129.1;have p132:0≤(x3_2:Int):=of_decide_eq_true Qc;have q132:x3_2<(l0_1.length:Int):=of_decide_eq_true Qc;obtain ⟨ad132,A132_1,c132_1,A132_2,c132_2,A132_3,c132_3,e132,hx132_0,hx132_1,hx132_2,hx132_3,hl132_1,hi132_1,hl132_2,hi132_2,hl132_3,hi132_3⟩:=at_T29 HR0_1.1 x3_2 p132 q132;cases e132
       replace hx132_0:=cB hx132_0 HB.1;replace hx132_1:=cB hx132_1 HB.1;replace hx132_2:=cB hx132_2 HB.1;replace hx132_3:=cB hx132_3 HB.1;have HR132_1:=Am hi132_1;have HC132_1:=Am hl132_1;clear hi132_1 hl132_1;have HR132_2:=Am hi132_2;have HC132_2:=Am hl132_2;clear hi132_2 hl132_2;have HR132_3:=Am hi132_3;have HC132_3:=Am hl132_3;clear hi132_3 hl132_3;obtain ⟨p132,q132⟩:=et2 p132 q132;go_upto_if 33 with (first|(go_at_call 18;(with_reducible refine (spec_GoalOk.calls k2 ((rd_T29 l0_1 x3_2).f0) _ _ ((rd_T29 l0_1 x3_2).f1) _ _ ((rd_T29 l0_1 x3_2).f2) _ _ ((rd_T29 l0_1 x3_2).f3) t133 _ ?side1 ?side2 ?side3 ?side4 ?side5 ?side6 A19.1).mono ?_);(case side1=>repeat (first|exact (C_below HR132_1.1 HB.1)|(with_reducible refine C_alloc ?_ _)|(with_reducible refine C_drewN ?_ _)|(with_reducible refine C_drew ?_)));(case side2=>exact HC132_1.1);(case side3=>repeat (first|exact (C_below HR132_2.1 HB.1)|(with_reducible refine C_alloc ?_ _)|(with_reducible refine C_drewN ?_ _)|(with_reducible refine C_drew ?_)));(case side4=>exact HC132_2.1);(case side5=>repeat (first|exact (C_below HR132_3.1 HB.1)|(with_reducible refine C_alloc ?_ _)|(with_reducible refine C_drewN ?_ _)|(with_reducible refine C_drew ?_)));(case side6=>exact HC132_3.1);rintro e w22 ⟨rfl,hb⟩;have n_:=as2 (blk_below (blkp BK129.1) hb) (below_step QZ hb);clear BK129 HB;obtain ⟨BK129,HB⟩:=n_;clear hb))
       (try simp only [Act.put,sA_,sZ_,sS_]);have H:=g.1;clear g;by_cases c23:t133=true
       ·subst c23
        rw [if_pos rfl] at H;have H':=Am H;clear H;go_wp2;go_roundg k2
        case measure=>have:=HJ1.1;have:=HK2.1;omega
        case rel=>exact ⟨(wrap64 (x3_2+1)),Qf,H',⟨Zm⟩,⟨blkp BK129.1⟩,⟨QZ⟩⟩
       ·replace c23:=Bool.eq_false_iff.mpr c23
        subst c23;rw [if_neg nft] at H;obtain rfl:=oi H;go_wp2;go_ret;exact ⟨Qg,QZ⟩
      ·rw [if_neg c17] at H
       have c17b0:=decide_eq_false c17;clear c17;obtain rfl:=oi H;obtain ⟨hcz24_0,hcz24_1,hfz24_0,hfz24_1⟩:=blk2 BK129.1;go_wp2;go_ret;exact ⟨Qg,QZ⟩
def spec_l3Place.f (k:Nat) (a0_0:ByteArray) (a0_1:Int) (a0_2:Int):Option (Bool):=(spec_l1Name.f k a0_0).bind fun t135=>(if t135=true then ((spec_l1In.f a0_1 0 3).bind fun t136=>(if t136=true then ((spec_l1In.f a0_2 1 2).bind fun t137=>(some t137)) else (some false))) else (some false))
theorem spec_l3Place.calls (k:Nat) (a0_0:ByteArray) (a0_1:Int) (a0_2:Int) (r:Bool) (w:World) (h:spec_l3Place.f k a0_0 a0_1 a0_2=some r) :
  Calls Tryd.prog 36 #[.agg #[.string a0_0,.int .i64 a0_1,.int .i64 a0_2]] w fun e w'=>e = .returned (.bool r)∧Below w.heap.size w w':=by
 have hu47:=Tryd.underlying47;have HB:=Am (Below.refl w.heap.size w);have H:((spec_l1Name.f k a0_0).bind fun t135=>(if t135=true then ((spec_l1In.f a0_1 0 3).bind fun t136=>(if t136=true then ((spec_l1In.f a0_2 1 2).bind fun t137=>(some t137)) else (some false))) else (some false)))=some r:=h;clear h;obtain ⟨t135,A2,H⟩:=bnd H;(try dsimp only at H);by_cases c3:t135=true
 ·subst c3
  rw [if_pos rfl] at H;obtain ⟨t136,A4,H⟩:=bnd H;(try dsimp only at H);by_cases c5:t136=true
  ·subst c5
   rw [if_pos rfl] at H;obtain ⟨t137,A6,H⟩:=bnd H;(try dsimp only at H);obtain rfl:=oi H;go_enter Tryd.func36,Tryd.ntmps36
   go_wp2_with (first|((with_reducible refine gate_dst (N:=1) rfl ?_);refine box_event ?hg (N:=1) ?hd (cs:=#[.string a0_0,.int .i64 a0_1,.int .i64 a0_2]) (t:=47) ?hr ?_;(case hd=>rfl);(case hg=>rfl);(case hr=>first|(go_simp;done)|(go_simp;rfl));intro gb134 hg w7 hbox hb;have n_:=as3 (below_step Qd hb) (hbox) ((by rw [hg];exact (below_size Qd):w.heap.size≤gb134));clear HB;obtain ⟨HB,BK134,GE134⟩:=n_;clear hb hbox hg;obtain ⟨hcz8_0,hcz8_1,hcz8_2,hfz8_0,hfz8_1,hfz8_2⟩:=blk3 BK134.1)|(go_at_call 60;(with_reducible refine (spec_l1Name.calls k a0_0 true _ A2.1).mono ?_);rintro e w' ⟨rfl,⟨nd,rfl⟩⟩)|(go_at_call 61;(with_reducible refine (spec_l1In.calls a0_1 0 3 true _ A4.1).mono ?_);rintro e w' ⟨rfl,⟨nd,rfl⟩⟩)|(go_at_call 61;(with_reducible refine (spec_l1In.calls a0_2 1 2 t137 _ A6.1).mono ?_);rintro e w' ⟨rfl,⟨nd,rfl⟩⟩))
   go_ret;exact ⟨Qg,Z9⟩
  ·replace c5:=Bool.eq_false_iff.mpr c5
   subst c5;rw [if_neg nft] at H;obtain rfl:=oi H;go_enter Tryd.func36,Tryd.ntmps36
   go_wp2_with (first|((with_reducible refine gate_dst (N:=1) rfl ?_);refine box_event ?hg (N:=1) ?hd (cs:=#[.string a0_0,.int .i64 a0_1,.int .i64 a0_2]) (t:=47) ?hr ?_;(case hd=>rfl);(case hg=>rfl);(case hr=>first|(go_simp;done)|(go_simp;rfl));intro gb134 hg w9 hbox hb;have n_:=as3 (below_step Qd hb) (hbox) ((by rw [hg];exact (below_size Qd):w.heap.size≤gb134));clear HB;obtain ⟨HB,BK134,GE134⟩:=n_;clear hb hbox hg;obtain ⟨hcz10_0,hcz10_1,hcz10_2,hfz10_0,hfz10_1,hfz10_2⟩:=blk3 BK134.1)|(go_at_call 60;(with_reducible refine (spec_l1Name.calls k a0_0 true _ A2.1).mono ?_);rintro e w' ⟨rfl,⟨nd,rfl⟩⟩)|(go_at_call 61;(with_reducible refine (spec_l1In.calls a0_1 0 3 false _ A4.1).mono ?_);rintro e w' ⟨rfl,⟨nd,rfl⟩⟩))
   go_ret;exact ⟨Qg,Z9⟩
 ·replace c3:=Bool.eq_false_iff.mpr c3
  subst c3;rw [if_neg nft] at H;obtain rfl:=oi H;go_enter Tryd.func36,Tryd.ntmps36
  go_wp2_with (first|((with_reducible refine gate_dst (N:=1) rfl ?_);refine box_event ?hg (N:=1) ?hd (cs:=#[.string a0_0,.int .i64 a0_1,.int .i64 a0_2]) (t:=47) ?hr ?_;(case hd=>rfl);(case hg=>rfl);(case hr=>first|(go_simp;done)|(go_simp;rfl));intro gb134 hg w11 hbox hb;have n_:=as3 (below_step Qd hb) (hbox) ((by rw [hg];exact (below_size Qd):w.heap.size≤gb134));clear HB;obtain ⟨HB,BK134,GE134⟩:=n_;clear hb hbox hg;obtain ⟨hcz12_0,hcz12_1,hcz12_2,hfz12_0,hfz12_1,hfz12_2⟩:=blk3 BK134.1)|(go_at_call 60;(with_reducible refine (spec_l1Name.calls k a0_0 false _ A2.1).mono ?_);rintro e w' ⟨rfl,⟨nd,rfl⟩⟩))
  go_ret;exact ⟨Qg,Z9⟩
end Go.Proofs.YtlhniagacegbeaaDoor.P
