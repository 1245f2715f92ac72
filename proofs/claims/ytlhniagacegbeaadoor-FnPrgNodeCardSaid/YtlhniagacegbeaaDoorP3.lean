/- Contracts of functions of the program: each as a Lean function, and that its call does what that says; printed by cprint.py (this session) over print.py of the kit. Conditions: the hypotheses of each theorem. -/
import Derived.Test.YtlhniagacegbeaaDoorVZ
import Derived.Test.YtlhniagacegbeaaDoorP0
import Derived.Test.YtlhniagacegbeaaDoorP2
namespace Go.Proofs.YtlhniagacegbeaaDoor.P
open Go.RowKit Go.Proofs.YtlhniagacegbeaaDoorW.PrintWords Go.Proofs.YtlhniagacegbeaaDoorW.PrintWords.Kd Go.Proofs.YtlhniagacegbeaaDoorW.PrintLast Go.Proofs.YtlhniagacegbeaaDoorW.PrintMore Go.Proofs.YtlhniagacegbeaaDoorW.PrintMore.Kd
attribute [local go_sem] max2_int min2_int max_two min_two max_three min_three max_four min_four   -- for this text's walks alone
set_option linter.unusedVariables false
set_option maxHeartbeats 8000000
set_option maxRecDepth 100000
set_option linter.unusedSimpArgs false
mutual
def spec_l1Num.j0:Nat→ByteArray→Bool→Option (Int)
 | 0,_,_=>none
 | k+1,x0,x12=>if x12=true then (some (-1)) else (spec_l1Num.l0 k x0 0 0)
def spec_l1Num.l0:Nat→ByteArray→Int→Int→Option (Int)
 | 0,_,_,_=>none
 | k+1,x0,x3,x4=>if x4<(x0.size:Int) then (if 0≤x4 then (spec_l1Num.l0 k x0 (wrap64 ((wrap64 (x3 * 10))+(((bt x0 x4) - 48) % 256))) (wrap64 (x4+1))) else (none)) else (some x3)
end
def spec_l1Num.f (k:Nat) (a0:ByteArray):Option (Int):=if (a0.size:Int)=0 then (spec_l1Num.j0 k a0 true) else (spec_l1Num.j0 k a0 (decide ((a0.size:Int) > 5)))
theorem spec_l1Num.calls (k:Nat) (a0:ByteArray) (r:Int) (w:World) (h:spec_l1Num.f k a0=some r) :
  Calls Tryd.prog 77 #[.string a0] w fun e w'=>e = .returned (.int .i64 r)∧Drawn0 w w':=by
 have H:(if (a0.size:Int)=0 then (spec_l1Num.j0 k a0 true) else (spec_l1Num.j0 k a0 (decide ((a0.size:Int) > 5))))=some r:=h;clear h;have HC2:=Am H;clear H;go_enter Tryd.func77,Tryd.ntmps77;go_upto_region 1 with (fail)
 go_cut [12] (fun v12 wc=>∃ (kq:Nat) (x12_1:Bool),v12 = .bool x12_1∧Aside0 (spec_l1Num.j0 kq a0 x12_1=some r)∧Aside0 (kq≤k)∧Drawn0 w wc)
 case first=>
  have H:=HC2.1;clear HC2;by_cases c3:(a0.size:Int)=0
  ·rw [if_pos c3] at H
   obtain ⟨c3b0,c3b1⟩:=bqP c3;clear c3;(first|rw [c3b0]|rw [c3b1]|(simp only [i64_w,i32_w];rw [c3b0])|skip);have H':=Am H;clear H;go_wp2;go_meet
   case rel=>exact ⟨_,(true),Qf,H',⟨Qt⟩,Qp⟩
  ·rw [if_neg c3] at H
   obtain ⟨c3b0,c3b1⟩:=bqN c3;(first|rw [c3b0]|rw [c3b1]|(simp only [i64_w,i32_w];rw [c3b0])|skip);have H':=Am H;clear H;go_wp2;go_meet
   case rel=>exact ⟨_,(decide ((a0.size:Int) > 5)),Qf,H',⟨Qt⟩,Qp⟩
 case rest=>
  clear HC2;obtain ⟨kq,x12_1,rfl,HA,HJ1,⟨mc1,rfl⟩⟩:=hcut;cases kq with
  | zero=>exact absurd HA.1 (by simp [spec_l1Num.j0])
  | succ kj1=>
   have H:=HA.1;clear HA;simp only [spec_l1Num.j0] at H;by_cases c4:x12_1=true
   ·subst c4
    rw [if_pos rfl] at H;obtain rfl:=oi H;go_wp2;go_ret;exact ⟨Qf,Qp⟩
   ·replace c4:=Bool.eq_false_iff.mpr c4
    subst c4;rw [if_neg nft] at H;have H':=Am H;clear H;go_wp2
    go_loopg [3,4] kj1 (fun kq v3 v4 w'=>∃ (x3_2:Int) (x4_2:Int),v3 = .int .i64 x3_2∧v4 = .int .i64 x4_2∧Aside0 (spec_l1Num.l0 kq a0 x3_2 x4_2=some r)∧Aside0 (kq≤kj1)∧Drawn0 w w')
    case atStart=>exact ⟨(0),(0),Qf,Qf,H',⟨Nat.le_refl _⟩,Qp⟩
    case round=>
     clear H';(try clear c4);obtain ⟨x3_2,x4_2,rfl,rfl,HA,HK2,⟨m2,rfl⟩⟩:=hrel;cases gk with
     | zero=>exact absurd HA.1 (by simp [spec_l1Num.l0])
     | succ k2=>
      have H:=HA.1;clear HA;simp only [spec_l1Num.l0] at H;by_cases c5:x4_2<(a0.size:Int)
      ·rw [if_pos c5] at H
       have c5b0:=decide_eq_true c5;clear c5;obtain ⟨c6,H⟩:=ifS H;have c6b0:=decide_eq_true c6;clear c6;have H':=Am H;clear H;have p7:0≤(x4_2:Int):=of_decide_eq_true Qc;have q7:x4_2<(a0.size:Int):=of_decide_eq_true Qc;have hx7:=bt_at a0 x4_2;obtain ⟨p7,q7⟩:=et2 p7 q7;go_wp2;go_roundg k2
       case measure=>have:=HJ1.1;have:=HK2.1;omega
       case rel=>exact ⟨(wrap64 ((wrap64 (x3_2 * 10))+(((bt a0 x4_2) - 48) % 256))),(wrap64 (x4_2+1)),Qf,Qf,H',⟨Zm⟩,Qp⟩
      ·rw [if_neg c5] at H
       have c5b0:=decide_eq_false c5;clear c5;obtain rfl:=oi H;go_wp2;go_ret;exact ⟨Qf,Qp⟩
mutual
def spec_l1Take.j0:Nat→ByteArray→Int→Bool→Option (Int × Int × ByteArray × Int)
 | 0,_,_,_=>none
 | k+1,x0,x1,x53=>if x53=true then ((spec_l1Digits.f k x0 x1).bind fun t201=>(if 0≤x1 then (if x1≤t201 then (if t201≤(x0.size:Int) then ((spec_l1Num.f k (x0.extract (x1:Int).toNat (t201:Int).toNat)).bind fun t202=>(some (2,t202,(⟨#[]⟩:BA),t201))) else (none)) else (none)) else (none))) else (spec_l1Take.l0 k x0 x1 x1)
def spec_l1Take.l0:Nat→ByteArray→Int→Int→Option (Int × Int × ByteArray × Int)
 | 0,_,_,_=>none
 | k+1,x0,x1,x10=>if x10<(x0.size:Int) then (if 0≤x10 then (if (bt x0 x10)≥97 then (spec_l1Take.j2 k x0 x1 x10 (decide ((bt x0 x10)≤122))) else (spec_l1Take.j2 k x0 x1 x10 false)) else (none)) else (spec_l1Take.j2 k x0 x1 x10 false)
def spec_l1Take.j2:Nat→ByteArray→Int→Int→Bool→Option (Int × Int × ByteArray × Int)
 | 0,_,_,_,_=>none
 | k+1,x0,x1,x10,x80=>if x80=true then (spec_l1Take.l0 k x0 x1 (wrap64 (x10+1))) else (if 0≤x1 then (if x1≤x10 then (if x10≤(x0.size:Int) then (some (3,0,x0.extract (x1:Int).toNat (x10:Int).toNat,x10)) else (none)) else (none)) else (none))
end
def spec_l1Take.f (k:Nat) (a0:ByteArray) (a1:Int):Option (Int × Int × ByteArray × Int):=if a1≥(a0.size:Int) then (some (0,0,(⟨#[]⟩:BA),(-1))) else (if 0≤a1 then (if a1<(a0.size:Int) then (if (bt a0 a1)=88 then ((spec_l1Digits.f k a0 (wrap64 (a1+1))).bind fun t197=>(if 0≤(wrap64 (a1+1)) then (if (wrap64 (a1+1))≤t197 then (if t197≤(a0.size:Int) then ((spec_l1Num.f k (a0.extract ((wrap64 (a1+1)):Int).toNat (t197:Int).toNat)).bind fun t198=>(some (1,t198,(⟨#[]⟩:BA),t197))) else (none)) else (none)) else (none))) else (if (bt a0 a1)=45 then ((spec_l1Digits.f k a0 (wrap64 (a1+1))).bind fun t199=>(if 0≤(wrap64 (a1+1)) then (if (wrap64 (a1+1))≤t199 then (if t199≤(a0.size:Int) then ((spec_l1Num.f k (a0.extract ((wrap64 (a1+1)):Int).toNat (t199:Int).toNat)).bind fun t200=>(some (2,wrap64 (-t200),(⟨#[]⟩:BA),t199))) else (none)) else (none)) else (none))) else (if (bt a0 a1)≥48 then (spec_l1Take.j0 k a0 a1 (decide ((bt a0 a1)≤57))) else (spec_l1Take.j0 k a0 a1 false)))) else (none)) else (none))
theorem spec_l1Take.calls (k:Nat) (a0:ByteArray) (a1:Int) (r1:Int) (r2:Int) (r3:ByteArray) (r4:Int) (w:World) (h:spec_l1Take.f k a0 a1=some (r1,r2,r3,r4)) :
  Calls Tryd.prog 54 #[.string a0,.int .i64 a1] w fun e w'=>e = .returned (.tuple #[.agg #[.int .i64 r1,.int .i64 r2,.string r3],.int .i64 r4])∧Below w.heap.size w w':=by
 have hu44:=Tryd.underlying44;have HB:=Am (Below.refl w.heap.size w);have H:(if a1≥(a0.size:Int) then (some (0,0,(⟨#[]⟩:BA),(-1))) else (if 0≤a1 then (if a1<(a0.size:Int) then (if (bt a0 a1)=88 then ((spec_l1Digits.f k a0 (wrap64 (a1+1))).bind fun t197=>(if 0≤(wrap64 (a1+1)) then (if (wrap64 (a1+1))≤t197 then (if t197≤(a0.size:Int) then ((spec_l1Num.f k (a0.extract ((wrap64 (a1+1)):Int).toNat (t197:Int).toNat)).bind fun t198=>(some (1,t198,(⟨#[]⟩:BA),t197))) else (none)) else (none)) else (none))) else (if (bt a0 a1)=45 then ((spec_l1Digits.f k a0 (wrap64 (a1+1))).bind fun t199=>(if 0≤(wrap64 (a1+1)) then (if (wrap64 (a1+1))≤t199 then (if t199≤(a0.size:Int) then ((spec_l1Num.f k (a0.extract ((wrap64 (a1+1)):Int).toNat (t199:Int).toNat)).bind fun t200=>(some (2,wrap64 (-t200),(⟨#[]⟩:BA),t199))) else (none)) else (none)) else (none))) else (if (bt a0 a1)≥48 then (spec_l1Take.j0 k a0 a1 (decide ((bt a0 a1)≤57))) else (spec_l1Take.j0 k a0 a1 false)))) else (none)) else (none)))=some (r1,r2,r3,r4):=h;clear h;have HC3:=Am H;clear H;go_enter Tryd.func54,Tryd.ntmps54;go_upto_if 14 with (first|((with_reducible refine gate_dst (N:=4) rfl ?_);refine box_event ?hg (N:=4) ?hd (cs:=#[.int .i64 0,.int .i64 0,.string (⟨#[]⟩:BA)]) (t:=44) ?hr ?_;(case hd=>rfl);(case hg=>rfl);(case hr=>first|(go_simp;done)|(go_simp;rfl));intro gb196 hg w4 hbox hb;have n_:=as3 (below_step Qd hb) (hbox) ((by rw [hg];exact (below_size Qd):w.heap.size≤gb196));clear HB;obtain ⟨HB,BK196,GE196⟩:=n_;clear hb hbox hg))
 (try simp only [Act.put,sA_,sZ_,sS_]);have H:=HC3.1;clear HC3;by_cases c5:a1≥(a0.size:Int)
 ·rw [if_pos c5] at H
  have c5b0:=decide_eq_true c5;clear c5;(first|rw [c5b0]|rw [c5b1]|(simp only [i64_w,i32_w];rw [c5b0])|skip);simp only [Option.some.injEq,Prod.mk.injEq] at H;obtain ⟨rfl,rfl,rfl,rfl⟩:=H;obtain ⟨hcz6_0,hcz6_1,hcz6_2,hfz6_0,hfz6_1,hfz6_2⟩:=blk3 BK196.1;go_wp2;refine bodyPost_ret (results_ct rfl _ _ gb196 44 #[.int .i64 0,.int .i64 0,.string (⟨#[]⟩:BA)] (0,0) _ rfl (blkp (blk_put (cs:=#[.int .i64 0,.int .i64 0,.string (⟨#[]⟩:BA)]) (blk_put (cs:=#[.int .i64 0,.int .i64 0,.string (⟨#[]⟩:BA)]) (blk_put (cs:=#[.int .i64 0,.int .i64 0,.string (⟨#[]⟩:BA)]) BK196.1 0 _ rfl) 1 _ rfl) 2 _ rfl)) Tryd.underlying44 rfl Qb) rfl ?_;exact ⟨Qg,QH⟩
 ·rw [if_neg c5] at H
  have c5b0:=decide_eq_false c5;clear c5;(first|rw [c5b0]|rw [c5b1]|(simp only [i64_w,i32_w];rw [c5b0])|skip);obtain ⟨c7,H⟩:=ifS H;have c7b0:=decide_eq_true c7;clear c7;obtain ⟨c8,H⟩:=ifS H;have c8b0:=decide_eq_true c8;clear c8;by_cases c10:(bt a0 a1)=88
  ·rw [if_pos c10] at H
   obtain ⟨c10b0,c10b1⟩:=bqP c10;clear c10;obtain ⟨t197,A11,H⟩:=bnd H;(try dsimp only at H);obtain ⟨ji12,hji12⟩:∃ j_:Int,(wrap64 (a1+1))=j_:=⟨_,rfl⟩;replace H:(if 0≤(ji12) then (if (ji12)≤t197 then (if t197≤(a0.size:Int) then ((spec_l1Num.f k (a0.extract ((ji12):Int).toNat (t197:Int).toNat)).bind fun t198=>(some (1,t198,(⟨#[]⟩:BA),t197))) else (none)) else (none)) else (none))=some (r1,r2,r3,r4):=by first|(rw [hji12] at H;exact H)|(simp only [hji12] at H ⊢;exact H)
   (try rw [hji12] at A11);have hji12w:(IntKind.i64.wrap (a1+1))=ji12:=(i64_w _).trans hji12;obtain ⟨c13,H⟩:=ifS H;have c13b0:=eq_true c13;have c13b1:=decide_eq_true c13;clear c13;obtain ⟨c14,H⟩:=ifS H;have c14b0:=eq_true c14;have c14b1:=decide_eq_true c14;clear c14;obtain ⟨c15,H⟩:=ifS H;have c15b0:=eq_true c15;have c15b1:=decide_eq_true c15;clear c15;obtain ⟨t198,A16,H⟩:=bnd H;(try dsimp only at H);simp only [Option.some.injEq,Prod.mk.injEq] at H;obtain ⟨rfl,rfl,rfl,rfl⟩:=H;have p9:0≤(a1:Int):=of_decide_eq_true Qc;have u:a1<(a0.size:Int):=of_decide_eq_true Qc;have E:=bt_at a0 a1;obtain ⟨p9,u⟩:=et2 p9 u
   go_wp2_with (first|(go_at_call 76;(with_reducible refine (spec_l1Digits.calls k a0 ji12 t197 _ A11.1).mono ?_);rintro e w' ⟨rfl,⟨nd,rfl⟩⟩;(try (rw [drewN_self w4];generalize hq_:World.drewN w4 _=w4;have n0_:Aside0 (w4.heap[gb196]?=some (.cells #[.int .i64 0,.int .i64 0,.string (⟨#[]⟩:BA)] 44 (0,0))):=⟨Zz⟩;have n1_:Aside0 (Below w.heap.size w w4):=⟨by rw [← hq_];exact QH⟩;clear BK196 HB hq_;have BK196:=n0_;have HB:=n1_;clear n0_ n1_)))|(go_at_call 77;(with_reducible refine (spec_l1Num.calls k (a0.extract ((ji12):Int).toNat (t197:Int).toNat) t198 _ A16.1).mono ?_);rintro e w' ⟨rfl,⟨nd,rfl⟩⟩;(try (rw [drewN_self w4];generalize hq_:World.drewN w4 _=w4;have n0_:Aside0 (w4.heap[gb196]?=some (.cells #[.int .i64 0,.int .i64 0,.string (⟨#[]⟩:BA)] 44 (0,0))):=⟨Zz⟩;have n1_:Aside0 (Below w.heap.size w w4):=⟨by rw [← hq_];exact QH⟩;clear BK196 HB hq_;have BK196:=n0_;have HB:=n1_;clear n0_ n1_));obtain ⟨hcz17_0,hcz17_1,hcz17_2,hfz17_0,hfz17_1,hfz17_2⟩:=blk3 BK196.1))
   refine bodyPost_ret (results_ct rfl _ _ gb196 44 #[.int .i64 1,.int .i64 t198,.string (⟨#[]⟩:BA)] (0,0) _ rfl (blkp (blk_put (cs:=#[.int .i64 1,.int .i64 t198,.string (⟨#[]⟩:BA)]) (blk_put (cs:=#[.int .i64 1,.int .i64 0,.string (⟨#[]⟩:BA)]) (blk_put (cs:=#[.int .i64 0,.int .i64 0,.string (⟨#[]⟩:BA)]) BK196.1 0 _ rfl) 1 _ rfl) 2 _ rfl)) Tryd.underlying44 rfl Qb) rfl ?_;exact ⟨by first|rfl|(simp [errW_none,errW_some] <;> rfl)|(simp only [← hji12];first|rfl|(simp [errW_none,errW_some] <;> rfl))|(simp [*,errW_none,errW_some] <;> rfl),QH⟩
  ·rw [if_neg c10] at H
   obtain ⟨c10b0,c10b1⟩:=bqN c10;by_cases c18:(bt a0 a1)=45
   ·rw [if_pos c18] at H
    obtain ⟨c18b0,c18b1⟩:=bqP c18;clear c18;obtain ⟨t199,A19,H⟩:=bnd H;(try dsimp only at H);obtain ⟨ji20,hji20⟩:∃ j_:Int,(wrap64 (a1+1))=j_:=⟨_,rfl⟩;replace H:(if 0≤(ji20) then (if (ji20)≤t199 then (if t199≤(a0.size:Int) then ((spec_l1Num.f k (a0.extract ((ji20):Int).toNat (t199:Int).toNat)).bind fun t200=>(some (2,wrap64 (-t200),(⟨#[]⟩:BA),t199))) else (none)) else (none)) else (none))=some (r1,r2,r3,r4):=by first|(rw [hji20] at H;exact H)|(simp only [hji20] at H ⊢;exact H)
    (try rw [hji20] at A19);have hji20w:(IntKind.i64.wrap (a1+1))=ji20:=(i64_w _).trans hji20;obtain ⟨c21,H⟩:=ifS H;have c21b0:=eq_true c21;have c21b1:=decide_eq_true c21;clear c21;obtain ⟨c22,H⟩:=ifS H;have c22b0:=eq_true c22;have c22b1:=decide_eq_true c22;clear c22;obtain ⟨c23,H⟩:=ifS H;have c23b0:=eq_true c23;have c23b1:=decide_eq_true c23;clear c23;obtain ⟨t200,A24,H⟩:=bnd H;(try dsimp only at H);simp only [Option.some.injEq,Prod.mk.injEq] at H;obtain ⟨rfl,rfl,rfl,rfl⟩:=H;have p9:0≤(a1:Int):=of_decide_eq_true Qc;have u:a1<(a0.size:Int):=of_decide_eq_true Qc;have E:=bt_at a0 a1;obtain ⟨p9,u⟩:=et2 p9 u
    go_wp2_with (first|(go_at_call 76;(with_reducible refine (spec_l1Digits.calls k a0 ji20 t199 _ A19.1).mono ?_);rintro e w' ⟨rfl,⟨nd,rfl⟩⟩;(try (rw [drewN_self w4];generalize hq_:World.drewN w4 _=w4;have n0_:Aside0 (w4.heap[gb196]?=some (.cells #[.int .i64 0,.int .i64 0,.string (⟨#[]⟩:BA)] 44 (0,0))):=⟨Zz⟩;have n1_:Aside0 (Below w.heap.size w w4):=⟨by rw [← hq_];exact QH⟩;clear BK196 HB hq_;have BK196:=n0_;have HB:=n1_;clear n0_ n1_)))|(go_at_call 77;(with_reducible refine (spec_l1Num.calls k (a0.extract ((ji20):Int).toNat (t199:Int).toNat) t200 _ A24.1).mono ?_);rintro e w' ⟨rfl,⟨nd,rfl⟩⟩;(try (rw [drewN_self w4];generalize hq_:World.drewN w4 _=w4;have n0_:Aside0 (w4.heap[gb196]?=some (.cells #[.int .i64 0,.int .i64 0,.string (⟨#[]⟩:BA)] 44 (0,0))):=⟨Zz⟩;have n1_:Aside0 (Below w.heap.size w w4):=⟨by rw [← hq_];exact QH⟩;clear BK196 HB hq_;have BK196:=n0_;have HB:=n1_;clear n0_ n1_));obtain ⟨hcz25_0,hcz25_1,hcz25_2,hfz25_0,hfz25_1,hfz25_2⟩:=blk3 BK196.1))
    refine bodyPost_ret (results_ct rfl _ _ gb196 44 #[.int .i64 2,.int .i64 (wrap64 (-t200)),.string (⟨#[]⟩:BA)] (0,0) _ rfl (blkp (blk_put (cs:=#[.int .i64 2,.int .i64 (wrap64 (-t200)),.string (⟨#[]⟩:BA)]) (blk_put (cs:=#[.int .i64 2,.int .i64 0,.string (⟨#[]⟩:BA)]) (blk_put (cs:=#[.int .i64 0,.int .i64 0,.string (⟨#[]⟩:BA)]) BK196.1 0 _ rfl) 1 _ rfl) 2 _ rfl)) Tryd.underlying44 rfl Qb) rfl ?_;exact ⟨by first|rfl|(simp [errW_none,errW_some] <;> rfl)|(simp only [← hji20];first|rfl|(simp [errW_none,errW_some] <;> rfl))|(simp [*,errW_none,errW_some] <;> rfl),QH⟩
   ·rw [if_neg c18] at H
    obtain ⟨c18b0,c18b1⟩:=bqN c18;have Y:=Am H;clear H;have p9:0≤(a1:Int):=of_decide_eq_true Qc;have u:a1<(a0.size:Int):=of_decide_eq_true Qc;have E:=bt_at a0 a1;obtain ⟨p9,u⟩:=et2 p9 u;go_upto_region 10 with (fail)
    go_cut [53] (fun v53 wc=>∃ (kq:Nat) (O:Bool),v53 = .bool O∧Aside0 (spec_l1Take.j0 kq a0 a1 O=some (r1,r2,r3,r4))∧Aside0 (kq≤k)∧Aside0 (wc.heap[gb196]?=some (.cells #[.int .i64 0,.int .i64 0,.string (⟨#[]⟩:BA)] 44 (0,0)))∧Aside0 (Below w.heap.size w wc))
    case first=>
     have H:=Y.1;clear Y;by_cases c27:(bt a0 a1)≥48
     ·rw [if_pos c27] at H
      have c27b0:=decide_eq_true c27;clear c27;(first|rw [c27b0]|rw [c27b1]|(simp only [i64_w,i32_w];rw [c27b0])|skip);have H':=Am H;clear H;go_wp2;go_meet
      case rel=>exact ⟨_,(decide ((bt a0 a1)≤57)),Qf,H',⟨Qt⟩,⟨blkp BK196.1⟩,⟨QH⟩⟩
     ·rw [if_neg c27] at H
      have c27b0:=decide_eq_false c27;clear c27;(first|rw [c27b0]|rw [c27b1]|(simp only [i64_w,i32_w];rw [c27b0])|skip);have H':=Am H;clear H;go_wp2;go_meet
      case rel=>exact ⟨_,(false),Qf,H',⟨Qt⟩,⟨blkp BK196.1⟩,⟨QH⟩⟩
    case rest=>
     clear Y;(try clear c5);(try clear c5b0);(try clear c7);(try clear c7b0);(try clear c8);(try clear c8b0);(try clear p9);(try clear u);(try clear E);(try clear c10);(try clear c10b0);(try clear c10b1);(try clear c18);(try clear c18b0);(try clear c18b1);(try clear p9);(try clear u);obtain ⟨kq,O,rfl,HA,bD,BK196,HB⟩:=hcut;cases kq with
     | zero=>exact absurd HA.1 (by simp [spec_l1Take.j0])
     | succ Q=>
      have H:=HA.1;clear HA;simp only [spec_l1Take.j0] at H;by_cases c28:O=true
      ·subst c28
       rw [if_pos rfl] at H;obtain ⟨t201,A29,H⟩:=bnd H;(try dsimp only at H);obtain ⟨c30,H⟩:=ifS H;have cE:=eq_true c30;have cF:=decide_eq_true c30;clear c30;obtain ⟨c31,H⟩:=ifS H;have c31b0:=eq_true c31;have c31b1:=decide_eq_true c31;clear c31;obtain ⟨c32,H⟩:=ifS H;have c32b0:=eq_true c32;have c32b1:=decide_eq_true c32;clear c32;obtain ⟨t202,A33,H⟩:=bnd H;(try dsimp only at H);simp only [Option.some.injEq,Prod.mk.injEq] at H;obtain ⟨rfl,rfl,rfl,rfl⟩:=H
       go_wp2_with (first|(go_at_call 76;(with_reducible refine (spec_l1Digits.calls Q a0 a1 t201 _ A29.1).mono ?_);rintro e w' ⟨rfl,⟨nd,rfl⟩⟩;(try (rw [drewN_self wc];generalize hq_:World.drewN wc _=wc;have n0_:Aside0 (wc.heap[gb196]?=some (.cells #[.int .i64 0,.int .i64 0,.string (⟨#[]⟩:BA)] 44 (0,0))):=⟨Zz⟩;have n1_:Aside0 (Below w.heap.size w wc):=⟨by rw [← hq_];exact QH⟩;clear BK196 HB hq_;have BK196:=n0_;have HB:=n1_;clear n0_ n1_)))|(go_at_call 77;(with_reducible refine (spec_l1Num.calls Q (a0.extract (a1:Int).toNat (t201:Int).toNat) t202 _ A33.1).mono ?_);rintro e w' ⟨rfl,⟨nd,rfl⟩⟩;(try (rw [drewN_self wc];generalize hq_:World.drewN wc _=wc;have n0_:Aside0 (wc.heap[gb196]?=some (.cells #[.int .i64 0,.int .i64 0,.string (⟨#[]⟩:BA)] 44 (0,0))):=⟨Zz⟩;have n1_:Aside0 (Below w.heap.size w wc):=⟨by rw [← hq_];exact QH⟩;clear BK196 HB hq_;have BK196:=n0_;have HB:=n1_;clear n0_ n1_));obtain ⟨hcz34_0,hcz34_1,hcz34_2,hfz34_0,hfz34_1,hfz34_2⟩:=blk3 BK196.1))
       refine bodyPost_ret (results_ct rfl _ _ gb196 44 #[.int .i64 2,.int .i64 t202,.string (⟨#[]⟩:BA)] (0,0) _ rfl (blkp (blk_put (cs:=#[.int .i64 2,.int .i64 t202,.string (⟨#[]⟩:BA)]) (blk_put (cs:=#[.int .i64 2,.int .i64 0,.string (⟨#[]⟩:BA)]) (blk_put (cs:=#[.int .i64 0,.int .i64 0,.string (⟨#[]⟩:BA)]) BK196.1 0 _ rfl) 1 _ rfl) 2 _ rfl)) Tryd.underlying44 rfl Qb) rfl ?_;exact ⟨Qg,QH⟩
      ·replace c28:=Bool.eq_false_iff.mpr c28
       subst c28;rw [if_neg nft] at H;have H':=Am H;clear H;go_wp2
       go_loopg [10] Q (fun kq v10 w'=>∃ (x10_2:Int),v10 = .int .i64 x10_2∧Aside0 (spec_l1Take.l0 kq a0 a1 x10_2=some (r1,r2,r3,r4))∧Aside0 (kq≤Q)∧Aside0 (w'.heap[gb196]?=some (.cells #[.int .i64 0,.int .i64 0,.string (⟨#[]⟩:BA)] 44 (0,0)))∧Aside0 (Below w.heap.size w w'))
       case atStart=>exact ⟨(a1),Qf,H',⟨Nat.le_refl _⟩,⟨blkp BK196.1⟩,⟨QH⟩⟩
       case round=>
        clear H';(try clear c5);(try clear c5b0);(try clear c7);(try clear c7b0);(try clear c8);(try clear c8b0);(try clear p9);(try clear u);(try clear E);(try clear c10);(try clear c10b0);(try clear c10b1);(try clear c18);(try clear c18b0);(try clear c18b1);(try clear c28);(try clear p9);(try clear u);obtain ⟨x10_2,rfl,HA,HK2,BK196,HB⟩:=hrel;cases gk with
        | zero=>exact absurd HA.1 (by simp [spec_l1Take.l0])
        | succ k2=>
         have H:=HA.1;clear HA;simp only [spec_l1Take.l0] at H;have Z:=Am H;clear H;go_upto_region 14 with (fail)
         go_cut [80] (fun v80 wc=>∃ (kq:Nat) (U:Bool),v80 = .bool U∧Aside0 (spec_l1Take.j2 kq a0 a1 x10_2 U=some (r1,r2,r3,r4))∧Aside0 (kq≤k2)∧Aside0 (wc.heap[gb196]?=some (.cells #[.int .i64 0,.int .i64 0,.string (⟨#[]⟩:BA)] 44 (0,0)))∧Aside0 (Below w.heap.size w wc))
         case first=>
          have H:=Z.1;clear Z;by_cases A:x10_2<(a0.size:Int)
          ·rw [if_pos A] at H
           have G:=decide_eq_true A;clear A;(first|rw [G]|rw [c36b1]|(simp only [i64_w,i32_w];rw [G])|skip);obtain ⟨c37,H⟩:=ifS H;have c37b0:=decide_eq_true c37;clear c37;by_cases c39:(bt a0 x10_2)≥97
           ·rw [if_pos c39] at H
            have c39b0:=decide_eq_true c39;clear c39;have H':=Am H;clear H;have p38:0≤(x10_2:Int):=of_decide_eq_true Qc;have I:x10_2<(a0.size:Int):=of_decide_eq_true Qc;have hx38:=bt_at a0 x10_2;obtain ⟨p38,I⟩:=et2 p38 I;have p40:0≤(x10_2:Int):=of_decide_eq_true Qc;have q40:x10_2<(a0.size:Int):=of_decide_eq_true Qc;have hx40:=bt_at a0 x10_2;obtain ⟨p40,q40⟩:=et2 p40 q40;go_wp2;go_meet
            case rel=>exact ⟨_,(decide ((bt a0 x10_2)≤122)),Qf,H',⟨Yh⟩,⟨blkp BK196.1⟩,⟨QH⟩⟩
           ·rw [if_neg c39] at H
            have c39b0:=decide_eq_false c39;clear c39;have H':=Am H;clear H;have p38:0≤(x10_2:Int):=of_decide_eq_true Qc;have I:x10_2<(a0.size:Int):=of_decide_eq_true Qc;have hx38:=bt_at a0 x10_2;obtain ⟨p38,I⟩:=et2 p38 I;go_wp2;go_meet
            case rel=>exact ⟨_,(false),Qf,H',⟨Yh⟩,⟨blkp BK196.1⟩,⟨QH⟩⟩
          ·rw [if_neg A] at H
           have G:=decide_eq_false A;clear A;(first|rw [G]|rw [c36b1]|(simp only [i64_w,i32_w];rw [G])|skip);have H':=Am H;clear H;go_wp2;go_meet
           case rel=>exact ⟨_,(false),Qf,H',⟨Yh⟩,⟨blkp BK196.1⟩,⟨QH⟩⟩
         case rest=>
          clear Z;(try clear c5);(try clear c5b0);(try clear c7);(try clear c7b0);(try clear c8);(try clear c8b0);(try clear p9);(try clear u);(try clear E);(try clear c10);(try clear c10b0);(try clear c10b1);(try clear c18);(try clear c18b0);(try clear c18b1);(try clear c28);(try clear p9);(try clear u);obtain ⟨kq,U,rfl,HA,cd,BK196,HB⟩:=hcut;cases kq with
          | zero=>exact absurd HA.1 (by simp [spec_l1Take.j2])
          | succ cl=>
           have H:=HA.1;clear HA;simp only [spec_l1Take.j2] at H;by_cases c41:U=true
           ·subst c41
            rw [if_pos rfl] at H;have H':=Am H;clear H;go_wp2;go_roundg cl
            case measure=>have:=bD.1;have:=HK2.1;have:=cd.1;omega
            case rel=>exact ⟨(wrap64 (x10_2+1)),Qf,H',⟨by have:=bD.1;have:=HK2.1;have:=cd.1;omega⟩,⟨blkp BK196.1⟩,⟨QH⟩⟩
           ·replace c41:=Bool.eq_false_iff.mpr c41
            subst c41;rw [if_neg nft] at H;obtain ⟨c42,H⟩:=ifS H;have c42b0:=eq_true c42;have c42b1:=decide_eq_true c42;clear c42;obtain ⟨c43,H⟩:=ifS H;have c43b0:=eq_true c43;have c43b1:=decide_eq_true c43;clear c43;obtain ⟨c44,H⟩:=ifS H;have c44b0:=eq_true c44;have c44b1:=decide_eq_true c44;clear c44;simp only [Option.some.injEq,Prod.mk.injEq] at H;obtain ⟨rfl,rfl,rfl,rfl⟩:=H;obtain ⟨hcz45_0,hcz45_1,hcz45_2,hfz45_0,hfz45_1,hfz45_2⟩:=blk3 BK196.1;go_wp2;refine bodyPost_ret (results_ct rfl _ _ gb196 44 #[.int .i64 3,.int .i64 0,.string (a0.extract (a1:Int).toNat (x10_2:Int).toNat)] (0,0) _ rfl (blkp (blk_put (cs:=#[.int .i64 3,.int .i64 0,.string (⟨#[]⟩:BA)]) (blk_put (cs:=#[.int .i64 3,.int .i64 0,.string (⟨#[]⟩:BA)]) (blk_put (cs:=#[.int .i64 0,.int .i64 0,.string (⟨#[]⟩:BA)]) BK196.1 0 _ rfl) 1 _ rfl) 2 _ rfl)) Tryd.underlying44 rfl Qb) rfl ?_;exact ⟨Qg,QH⟩
mutual
def spec_TrmRead.l0:Nat→ByteArray→List (S44)→List Int→Int→Option ((List (S44)) × Bool)
 | 0,_,_,_,_=>none
 | k+1,x0,x4,x5,x6=>if x6<(x0.size:Int) then (spec_TrmRead.j1 k x0 x4 x5 x6 (decide ((x4.length:Int)<40))) else (spec_TrmRead.j1 k x0 x4 x5 x6 false)
def spec_TrmRead.j1:Nat→ByteArray→List (S44)→List Int→Int→Bool→Option ((List (S44)) × Bool)
 | 0,_,_,_,_,_=>none
 | k+1,x0,x4,x5,x6,x19=>if x19=true then ((spec_l1Take.f k x0 x6).bind fun y=>(if y.2.2.2≤x6 then (some ((([]:List (S44))),false)) else (if (x5.length:Int) > 0 then (if 0≤(wrap64 ((x5.length:Int) - 1)) then (if (wrap64 ((x5.length:Int) - 1))<(x5.length:Int) then (if 0≤(rd x5 (wrap64 ((x5.length:Int) - 1))) then (if (rd x5 (wrap64 ((x5.length:Int) - 1)))<(x4.length:Int) then (spec_TrmRead.j2 k x0 (x4.set ((rd x5 (wrap64 ((x5.length:Int) - 1))):Int).toNat (⟨(rd_T44 x4 (rd x5 (wrap64 ((x5.length:Int) - 1)))).f0,wrap64 (((rd_T44 x4 (rd x5 (wrap64 ((x5.length:Int) - 1)))).f1)+1),(rd_T44 x4 (rd x5 (wrap64 ((x5.length:Int) - 1)))).f2⟩:S44)) x5 y.2.2.2 y.1 y.2.1 y.2.2.1) else (none)) else (none)) else (none)) else (none)) else (spec_TrmRead.j2 k x0 x4 x5 y.2.2.2 y.1 y.2.1 y.2.2.1)))) else ((spec_TrmText.f k x4).bind fun B=>(if B.toList=x0.toList then (if x0.toList=([]:List UInt8) then (some ((([]:List (S44))),false)) else (some (x4,true))) else (some ((([]:List (S44))),false))))
def spec_TrmRead.j2:Nat→ByteArray→List (S44)→List Int→Int→Int→Int→ByteArray→Option ((List (S44)) × Bool)
 | 0,_,_,_,_,_,_,_=>none
 | k+1,x0,x4,x5,x8,x214000,x214001,x214002=>if x4.length<4398046511104 then ((some (x4++[(⟨x214000,x214001,x214002⟩:S44)]:List (S44))).bind fun y221=>(if x214000=3 then (if x8<(x0.size:Int) then (if 0≤x8 then (spec_TrmRead.j3 k x0 y221 x5 x8 ((bt x0 x8) == 40)) else (none)) else (spec_TrmRead.j3 k x0 y221 x5 x8 false)) else (spec_TrmRead.j3 k x0 y221 x5 x8 false))) else (none)
def spec_TrmRead.j3:Nat→ByteArray→List (S44)→List Int→Int→Bool→Option ((List (S44)) × Bool)
 | 0,_,_,_,_,_=>none
 | k+1,x0,x4,x5,x6,x72=>if x72=true then (if x5.length<17592186044416 then (spec_TrmRead.l0 k x0 x4 (x5++[wrap64 ((x4.length:Int) - 1)]) (wrap64 (x6+1))) else (none)) else (spec_TrmRead.l1 k x0 x4 x5 x6)
def spec_TrmRead.l1:Nat→ByteArray→List (S44)→List Int→Int→Option ((List (S44)) × Bool)
 | 0,_,_,_,_=>none
 | k+1,x0,x4,x5,x6=>if x6<(x0.size:Int) then (if 0≤x6 then (if (bt x0 x6)=41 then (spec_TrmRead.j5 k x0 x4 x5 x6 (decide ((x5.length:Int) > 0))) else (spec_TrmRead.j5 k x0 x4 x5 x6 false)) else (none)) else (spec_TrmRead.j5 k x0 x4 x5 x6 false)
def spec_TrmRead.j5:Nat→ByteArray→List (S44)→List Int→Int→Bool→Option ((List (S44)) × Bool)
 | 0,_,_,_,_,_=>none
 | k+1,x0,x4,x5,x6,x95=>if x95=true then (if 0≤(wrap64 ((x5.length:Int) - 1)) then (if (wrap64 ((x5.length:Int) - 1))≤(x5.length:Int) then (spec_TrmRead.l1 k x0 x4 (x5.take ((wrap64 ((x5.length:Int) - 1)):Int).toNat) (wrap64 (x6+1))) else (none)) else (none)) else (if x6<(x0.size:Int) then (if 0≤x6 then (if (bt x0 x6)=44 then (spec_TrmRead.l0 k x0 x4 x5 (wrap64 (x6+1))) else (spec_TrmRead.l0 k x0 x4 x5 x6)) else (none)) else (spec_TrmRead.l0 k x0 x4 x5 x6))
end
def spec_TrmRead.f (k:Nat) (a0:ByteArray):Option ((List (S44)) × Bool):=spec_TrmRead.l0 k a0 (([]:List (S44))) (([]:List Int)) 0
def spec_TrmRead.T9:Bool × List (List Nat × List Nat):=(true,[([],[]),([],[]),([],[]),([2],[2]),([3],[3]),([1,4],[1,4]),([5],[5]),([],[]),([],[]),([],[]),([9],[9]),([10],[10]),([8,11],[8,11]),([12],[12]),([7,13],[7,13]),([14],[14]),([15],[15]),([16],[16]),([0,6,0,1,2,3,4,5,6,7,8,9,10,11,12,13,14,15,16,17],[0,6]),([18,0,1,2,3,4,5,6,7,8,9,10,11,12,13,14,15,16,17],[18]),([19,17,0,1,2,3,4,5,6,7,8,9,10,11,12,13,14,15,16,17],[17,19])])
def spec_TrmRead.B9:List Nat:=[0,0,0,4,12,30,62,0,0,0,512,1536,3840,7936,16256,32640,65408,130944,262143,524287,1048575]
theorem spec_TrmRead.tab9:rtab .any (opsOf Tryd.f27 9)=spec_TrmRead.T9:=Qb
theorem spec_TrmRead.bits9:waitsOk spec_TrmRead.T9.2 spec_TrmRead.B9=true:=Qb
theorem spec_TrmRead.calls (k:Nat) (a0:ByteArray) (r1:List (S44)) (r2:Bool) (w:World) (h:spec_TrmRead.f k a0=some (r1,r2)) :
  Calls Tryd.prog 27 #[.string a0] w fun e w'=>∃ v0_:Value,e = .returned (.tuple #[v0_,.bool r2])∧Kd.R k44 44 w' w.heap.size (fun _=>True) v0_ r1∧Below w.heap.size w w':=by
 have hu44:=Tryd.underlying44;have HB:=Am (Below.refl w.heap.size w);have H:(spec_TrmRead.l0 k a0 (([]:List (S44))) (([]:List Int)) 0)=some (r1,r2):=h;clear h;obtain ⟨y203,hy203⟩:∃ y_:List (S44),y_=(([]:List (S44))):=⟨_,rfl⟩;(first|rw [← hy203] at H|skip);try dsimp only [Option.bind_some] at H
 have Ny203:=Am hy203;clear hy203;obtain ⟨y206,hy206⟩:∃ y_:List Int,y_=(([]:List Int)):=⟨_,rfl⟩;(first|rw [← hy206] at H|skip);try dsimp only [Option.bind_some] at H
 have Ny206:=Am hy206;clear hy206;have H':=Am H;clear H;go_enter Tryd.func27,Tryd.ntmps27
 go_wp2_with (first|((with_reducible refine gate_dst (N:=9) rfl ?_);(try (refine gate_guard (by rfl) ?_;dsimp only));refine R_lit k44 _ 44 ?hg (N:=9) ?hd (xs:=([]:List (S44))) (inner:=[]) (ok:=fun _=>True) (okp:=fun _=>True) ?hr ?hp (fun _ hk=>hk) trivial (Below.refl _ _) (Nat.le_refl _) Qj ?_;(case hd=>rfl);(case hg=>rfl);(case hr=>first|(go_simp;done)|(go_simp;rfl));(case hp=>exact (Reps.none _ _));intro v204 w2 ho3 hb hg_ hnew_;clear hg_ hnew_;(first|rw [← Ny203.1] at ho3|(simp only [Int.reduceToNat] at ho3;rw [← Ny203.1] at ho3));have n_:=as2 (R_lower ho3 (below_size Qd)) (below_step Qd hb);clear HB;obtain ⟨HO205,HB⟩:=n_;clear hb ho3)|((with_reducible refine gate_dst (N:=10) rfl ?_);(try (refine gate_guard (by rfl) ?_;dsimp only));refine R_lit (Kd.int .i64) _ 3 ?hg (N:=10) ?hd (xs:=([]:List Int)) (inner:=[]) (ok:=fun _=>True) (okp:=fun _=>True) ?hr ?hp (fun _ hk=>hk) trivial (Below.refl _ _) (Nat.le_refl _) Qj ?_;(case hd=>rfl);(case hg=>rfl);(case hr=>first|(go_simp;done)|(go_simp;rfl));(case hp=>exact (Reps.none _ _));intro v207 w4 ho5 hb hg_ hnew_;clear hg_ hnew_;(first|rw [← Ny206.1] at ho5|(simp only [Int.reduceToNat] at ho5;rw [← Ny206.1] at ho5));have n_:=as3 (R_below (Rp HO205.1) hb) (R_lower ho5 (below_size Qd)) (below_step Qd hb);clear HO205 HB;obtain ⟨HO205,HO208,HB⟩:=n_;clear hb ho5))
 go_loopg [4,5,6] k (fun kq v4 v5 v6 w'=>∃ (x4_1:List (S44)) (x5_1:List Int) (x6_1:Int),v6 = .int .i64 x6_1∧Aside0 (spec_TrmRead.l0 kq a0 x4_1 x5_1 x6_1=some (r1,r2))∧Aside0 (kq≤k)∧Aside0 (Kd.R k44 44 w' w.heap.size (fun _=>True) v4 x4_1)∧Aside0 (Kd.R (Kd.int .i64) 3 w' w.heap.size (fun _=>True) v5 x5_1)∧Aside0 (Below w.heap.size w w'))
 case atStart=>exact ⟨(y203),(y206),(0),Qf,H',⟨Nat.le_refl _⟩,⟨Rp HO205.1⟩,⟨Rp HO208.1⟩,⟨Qd⟩⟩
 case round=>
  clear H';obtain ⟨x4_1,x5_1,x6_1,rfl,HA,HK1,HO_4,HO_5,HB⟩:=hrel;cases gk with
  | zero=>exact absurd HA.1 (by simp [spec_TrmRead.l0])
  | succ k1=>
   have H:=HA.1;clear HA;simp only [spec_TrmRead.l0] at H;have HC6:=Am H;clear H;go_upto_region 4 with (fail)
   go_cut [19] (fun v19 wc=>∃ (kq:Nat) (x19_5:Bool),v19 = .bool x19_5∧Aside0 (spec_TrmRead.j1 kq a0 x4_1 x5_1 x6_1 x19_5=some (r1,r2))∧Aside0 (kq≤k1)∧Aside0 (Kd.R k44 44 wc w.heap.size (fun _=>True) u4 x4_1)∧Aside0 (Kd.R (Kd.int .i64) 3 wc w.heap.size (fun _=>True) u5 x5_1)∧Aside0 (Below w.heap.size w wc))
   case first=>
    have H:=HC6.1;clear HC6;by_cases c7:x6_1<(a0.size:Int)
    ·rw [if_pos c7] at H
     have c7b0:=decide_eq_true c7;clear c7;(first|rw [c7b0]|rw [c7b1]|(simp only [i64_w,i32_w];rw [c7b0])|skip);have H':=Am H;clear H;obtain ⟨Ao8,co8,eo8⟩:=R_slice HO_4.1;subst eo8;go_wp2;go_meet
     case rel=>exact ⟨_,(decide ((x4_1.length:Int)<40)),Qf,H',⟨QE⟩,⟨Rp HO_4.1⟩,⟨Rp HO_5.1⟩,⟨Qd⟩⟩
    ·rw [if_neg c7] at H
     have c7b0:=decide_eq_false c7;clear c7;(first|rw [c7b0]|rw [c7b1]|(simp only [i64_w,i32_w];rw [c7b0])|skip);have H':=Am H;clear H;go_wp2;go_meet
     case rel=>exact ⟨_,(false),Qf,H',⟨QE⟩,⟨Rp HO_4.1⟩,⟨Rp HO_5.1⟩,⟨Qd⟩⟩
   case rest=>
    clear HC6;obtain ⟨kq,x19_5,rfl,HA,HJ5,HO_4,HO_5,HB⟩:=hcut;cases kq with
    | zero=>exact absurd HA.1 (by simp [spec_TrmRead.j1])
    | succ kj5=>
     have H:=HA.1;clear HA;simp only [spec_TrmRead.j1] at H;by_cases c9:x19_5=true
     ·subst c9
      rw [if_pos rfl] at H;obtain ⟨⟨t209,t210,s,t212⟩,A10,H⟩:=bnd H;(try dsimp only at H);by_cases c11:t212≤x6_1
      ·rw [if_pos c11] at H
       have c11b0:=decide_eq_true c11;clear c11;obtain ⟨cG,ad⟩:∃ y_:List (S44),y_=(([]:List (S44))):=⟨_,rfl⟩;(first|rw [← ad] at H|skip);try dsimp only [Option.bind_some] at H
       have ce:=Am ad;clear ad;simp only [Option.some.injEq,Prod.mk.injEq] at H;obtain ⟨rfl,rfl⟩:=H
       go_wp2_with (first|(go_at_call 54;(with_reducible refine (spec_l1Take.calls kj5 a0 x6_1 t209 t210 s t212 _ A10.1).mono ?_);rintro e w12 ⟨rfl,hb⟩;have n_:=as3 (R_below (Rp HO_4.1) hb) (R_below (Rp HO_5.1) hb) (below_step Qd hb);clear HO_4 HO_5 HB;obtain ⟨HO_4,HO_5,HB⟩:=n_;clear hb)|((with_reducible refine gate_dst (N:=7) rfl ?_);(try (refine gate_guard (by rfl) ?_;dsimp only));refine box_event ?hg (N:=7) ?hd (cs:=#[.int .i64 0,.int .i64 0,.string (⟨#[]⟩:BA)]) (t:=44) ?hr ?_;(case hd=>rfl);(case hg=>rfl);(case hr=>first|(go_simp;done)|(go_simp;rfl));intro l hg w13 hbox hb;have n_:=as5 (R_below (R_elderB (Rp HO_4.1) l (Nat.le_of_eq hg.symm)) hb) (R_below (Rp HO_5.1) hb) (below_step Qd hb) (hbox) ((by rw [hg];exact (below_size Qd):w.heap.size≤l));clear HO_4 HO_5 HB;obtain ⟨HO_4,HO_5,HB,q,bf⟩:=n_;clear hb hbox hg;obtain ⟨hcz14_0,hcz14_1,hcz14_2,hfz14_0,hfz14_1,hfz14_2⟩:=blk3 q.1)|((with_reducible refine gate_dst (N:=29) rfl ?_);(try (refine gate_guard (by rfl) ?_;dsimp only));refine R_lit k44 _ 44 ?hg (N:=29) ?hd (xs:=([]:List (S44))) (inner:=[]) (ok:=fun _=>True) (okp:=fun _=>True) ?hr ?hp (fun _ hk=>hk) trivial (Below.refl _ _) (Nat.le_refl _) Qj ?_;(case hd=>rfl);(case hg=>rfl);(case hr=>first|(go_simp;done)|(go_simp;rfl));(case hp=>exact (Reps.none _ _));intro cH w15 ho16 hb hg_ hnew_;clear hg_ hnew_;(first|rw [← ce.1] at ho16|(simp only [Int.reduceToNat] at ho16;rw [← ce.1] at ho16));have n_:=as5 (R_elder' (Rp (R_mono (R_far (p:=⟨l,2,none⟩) (R_far (p:=⟨l,1,none⟩) (R_far (p:=⟨l,0,none⟩) (R_mono HO_4.1 (fun k_ hk=>(⟨hk,hk.2⟩:_∧k_≠l))) (fun _ hk=>hk.2) (.int .i64 t209)) (fun _ hk=>hk.2) (.int .i64 t210)) (fun _ hk=>hk.2) (.string s)) (fun _ h_=>h_.1))) (R_base ho16) hb) (R_below (Rp (R_mono (R_far (p:=⟨l,2,none⟩) (R_put2 HO_5.1 q.1) (fun _ hk=>hk.2) (.string s)) (fun _ h_=>h_.1))) hb) (R_lower (R_newB (R_new' ho16 (R_lt (Rp (R_mono (R_far (p:=⟨l,2,none⟩) (R_far (p:=⟨l,1,none⟩) (R_far (p:=⟨l,0,none⟩) (R_mono HO_4.1 (fun k_ hk=>(⟨hk,hk.2⟩:_∧k_≠l))) (fun _ hk=>hk.2) (.int .i64 t209)) (fun _ hk=>hk.2) (.int .i64 t210)) (fun _ hk=>hk.2) (.string s)) (fun _ h_=>h_.1))))) (g:=l) (o:=.cells #[.int .i64 t209,.int .i64 t210,.string s] 44 (0,0)) (blkp (blk_put (cs:=#[.int .i64 t209,.int .i64 t210,.string (⟨#[]⟩:BA)]) (blk_put (cs:=#[.int .i64 t209,.int .i64 0,.string (⟨#[]⟩:BA)]) (blk_put (cs:=#[.int .i64 0,.int .i64 0,.string (⟨#[]⟩:BA)]) q.1 0 _ rfl) 1 _ rfl) 2 _ rfl))) (below_size QC)) (blk_below (blkp (blk_put (cs:=#[.int .i64 t209,.int .i64 t210,.string (⟨#[]⟩:BA)]) (blk_put (cs:=#[.int .i64 t209,.int .i64 0,.string (⟨#[]⟩:BA)]) (blk_put (cs:=#[.int .i64 0,.int .i64 0,.string (⟨#[]⟩:BA)]) q.1 0 _ rfl) 1 _ rfl) 2 _ rfl)) hb) (below_step QC hb);clear HO_4 HO_5 q HB;obtain ⟨HO_4,HO_5,cm,q,HB⟩:=n_;clear hb ho16))
       go_ret2;exact ⟨_,Qg,by (with_reducible repeat (first|apply R_alloc|apply R_drewN|apply R_drew));exact R_mono cm.1 (fun _ hk=>trivial),QC⟩
      ·rw [if_neg c11] at H
       have c11b0:=decide_eq_false c11;clear c11;have HC17:=Am H;clear H;go_upto_if 32 with (first|(go_at_call 54;(with_reducible refine (spec_l1Take.calls kj5 a0 x6_1 t209 t210 s t212 _ A10.1).mono ?_);rintro e w18 ⟨rfl,hb⟩;have n_:=as3 (R_below (Rp HO_4.1) hb) (R_below (Rp HO_5.1) hb) (below_step Qd hb);clear HO_4 HO_5 HB;obtain ⟨HO_4,HO_5,HB⟩:=n_;clear hb)|((with_reducible refine gate_dst (N:=7) rfl ?_);(try (refine gate_guard (by rfl) ?_;dsimp only));refine box_event ?hg (N:=7) ?hd (cs:=#[.int .i64 0,.int .i64 0,.string (⟨#[]⟩:BA)]) (t:=44) ?hr ?_;(case hd=>rfl);(case hg=>rfl);(case hr=>first|(go_simp;done)|(go_simp;rfl));intro l hg w19 hbox hb;have n_:=as5 (R_below (R_elderB (Rp HO_4.1) l (Nat.le_of_eq hg.symm)) hb) (R_below (Rp HO_5.1) hb) (below_step Qd hb) (hbox) ((by rw [hg];exact (below_size Qd):w.heap.size≤l));clear HO_4 HO_5 HB;obtain ⟨HO_4,HO_5,HB,q,bf⟩:=n_;clear hb hbox hg;obtain ⟨hcz20_0,hcz20_1,hcz20_2,hfz20_0,hfz20_1,hfz20_2⟩:=blk3 q.1;obtain ⟨Ao21,co21,eo21⟩:=R_slice HO_5.1;subst eo21))
       (try simp only [Act.put,sA_,sZ_,sS_]);go_cut [] (fun wc=>∃ (kq:Nat) (x4_16:List (S44)) (x:Int),Aside0 (spec_TrmRead.j2 kq a0 x4_16 x5_1 t212 t209 x s=some (r1,r2))∧Aside0 (kq≤kj5)∧Aside0 (Kd.R k44 44 wc w.heap.size (fun k_=>k_≠l) u4 x4_16)∧Aside0 (Kd.R (Kd.int .i64) 3 wc w.heap.size (fun _=>True) (.slice Ao21 x5_1.length co21) x5_1)∧Aside0 (wc.heap[l]?=some (.cells #[.int .i64 t209,.int .i64 x,.string s] 44 (0,0)))∧Aside0 (Below w.heap.size w wc))
       case first=>
        have H:=HC17.1;clear HC17;by_cases c22:(x5_1.length:Int) > 0
        ·rw [if_pos c22] at H
         have c22b0:=decide_eq_true c22;have c22b1:decide (0<x5_1.length)=true:=decide_eq_true Qe;clear c22;(first|rw [c22b0]|rw [c22b1]|(simp only [i64_w,i32_w];rw [c22b0])|skip);obtain ⟨ji23,hji23⟩:∃ j_:Int,(wrap64 ((x5_1.length:Int) - 1))=j_:=⟨_,rfl⟩;replace H:(if 0≤(ji23) then (if (ji23)<(x5_1.length:Int) then (if 0≤(rd x5_1 (ji23)) then (if (rd x5_1 (ji23))<(x4_1.length:Int) then (spec_TrmRead.j2 kj5 a0 (x4_1.set ((rd x5_1 (ji23)):Int).toNat (⟨(rd_T44 x4_1 (rd x5_1 (ji23))).f0,wrap64 (((rd_T44 x4_1 (rd x5_1 (ji23))).f1)+1),(rd_T44 x4_1 (rd x5_1 (ji23))).f2⟩:S44)) x5_1 t212 t209 t210 s) else (none)) else (none)) else (none)) else (none))=some (r1,r2):=by first|(rw [hji23] at H;exact H)|(simp only [hji23] at H ⊢;exact H)
         have hji23w:(IntKind.i64.wrap ((x5_1.length:Int) - 1))=ji23:=(i64_w _).trans hji23;obtain ⟨c24,H⟩:=ifS H;have c24b0:=decide_eq_true c24;clear c24;obtain ⟨c25,H⟩:=ifS H;have c25b0:=decide_eq_true c25;clear c25;obtain ⟨c26,H⟩:=ifS H;have c26b0:=decide_eq_true c26;clear c26;obtain ⟨c27,H⟩:=ifS H;have c27b0:=decide_eq_true c27;clear c27;obtain ⟨cn,aR⟩:∃ y_:List (S44),y_=(x4_1.set ((rd x5_1 (ji23)):Int).toNat (⟨(rd_T44 x4_1 (rd x5_1 (ji23))).f0,wrap64 (((rd_T44 x4_1 (rd x5_1 (ji23))).f1)+1),(rd_T44 x4_1 (rd x5_1 (ji23))).f2⟩:S44)):=⟨_,rfl⟩;(first|rw [← aR] at H|skip);try dsimp only [Option.bind_some] at H
         have co:=Am aR;clear aR;have H':=Am H;clear H;(try go_wp2);have n0_:Aside0 (Kd.R k44 44 (((w19.setCell ⟨l,0,none⟩ (.int .i64 t209)).setCell ⟨l,1,none⟩ (.int .i64 t210)).setCell ⟨l,2,none⟩ (.string s)) w.heap.size (fun k_=>k_≠l) u4 x4_1):=⟨Rp (R_mono (R_far (p:=⟨l,2,none⟩) (R_far (p:=⟨l,1,none⟩) (R_far (p:=⟨l,0,none⟩) (R_mono HO_4.1 (fun k_ hk=>(⟨hk,hk.2⟩:_∧k_≠l))) (fun _ hk=>hk.2) (.int .i64 t209)) (fun _ hk=>hk.2) (.int .i64 t210)) (fun _ hk=>hk.2) (.string s)) (fun _ hk=>hk.1.2))⟩;have n1_:Aside0 (Kd.R (Kd.int .i64) 3 (((w19.setCell ⟨l,0,none⟩ (.int .i64 t209)).setCell ⟨l,1,none⟩ (.int .i64 t210)).setCell ⟨l,2,none⟩ (.string s)) w.heap.size (fun _=>True) (.slice Ao21 x5_1.length co21) x5_1):=⟨Rp (R_mono (R_far (p:=⟨l,2,none⟩) (R_put2 HO_5.1 q.1) (fun _ hk=>hk.2) (.string s)) (fun _ hk=>trivial))⟩;have n2_:Aside0 ((((w19.setCell ⟨l,0,none⟩ (.int .i64 t209)).setCell ⟨l,1,none⟩ (.int .i64 t210)).setCell ⟨l,2,none⟩ (.string s)).heap[l]?=some (.cells #[.int .i64 t209,.int .i64 t210,.string s] 44 (0,0))):=⟨blkp (blk_put (cs:=#[.int .i64 t209,.int .i64 t210,.string (⟨#[]⟩:BA)]) (blk_put (cs:=#[.int .i64 t209,.int .i64 0,.string (⟨#[]⟩:BA)]) (blk_put (cs:=#[.int .i64 0,.int .i64 0,.string (⟨#[]⟩:BA)]) q.1 0 _ rfl) 1 _ rfl) 2 _ rfl)⟩;have n3_:Aside0 (Below w.heap.size w (((w19.setCell ⟨l,0,none⟩ (.int .i64 t209)).setCell ⟨l,1,none⟩ (.int .i64 t210)).setCell ⟨l,2,none⟩ (.string s))):=⟨QC⟩;(try clear HO_4);(try clear HO_5);(try clear q);(try clear HB)
         generalize (((w19.setCell ⟨l,0,none⟩ (.int .i64 t209)).setCell ⟨l,1,none⟩ (.int .i64 t210)).setCell ⟨l,2,none⟩ (.string s))=w29 at n0_ n1_ n2_ n3_ ⊢
         have HO_4:=n0_;have HO_5:=n1_;have q:=n2_;have HB:=n3_;clear n0_ n1_ n2_ n3_;have n_:=as4 (R_drew HO_4.1) (R_drew HO_5.1) (blk_drew q.1) (below_drew1 HB.1);clear HO_4 HO_5 q HB;obtain ⟨HO_4,HO_5,q,HB⟩:=n_;have a2:0≤((ji23):Int):=of_decide_eq_true Qc;have bY:(ji23)<(x5_1.length:Int):=of_decide_eq_true Qc;obtain ⟨bZ,e217,cf⟩:=Kd.at_int (R_reads' HO_5.1).2.2 (ji23) a2 bY;cases e217
         obtain ⟨a2,bY⟩:=et2 a2 bY;have b0:0≤((ji23):Int):=of_decide_eq_true Qc;have b1:(ji23)<(x5_1.length:Int):=of_decide_eq_true Qc;obtain ⟨cp,cq,cg⟩:=Kd.at_int (R_reads' HO_5.1).2.2 (ji23) b0 b1;obtain rfl:bZ=cp:=(by injection cq);obtain ⟨b0,b1⟩:=et2 b0 b1;obtain ⟨Ao31,co31,eo31⟩:=R_slice HO_4.1;(first|subst eo31|(injection eo31 with f1_ f2_ f3_;have f4_:=f1_.symm;have f5_:=f3_.symm;clear f1_ f2_ f3_;subst f4_;subst f5_));have b2:0≤((rd x5_1 (ji23)):Int):=of_decide_eq_true Qc;have b3:(rd x5_1 (ji23))<(x4_1.length:Int):=of_decide_eq_true Qc;obtain ⟨cI,e219,b4,b5,b6⟩:=at_T44 (R_reads' HO_4.1).2.2 (rd x5_1 (ji23)) b2 b3;cases e219
         obtain ⟨b2,b3⟩:=et2 b2 b3;have p28:0≤((rd x5_1 (ji23)):Int):=of_decide_eq_true Qc;have q28:((rd x5_1 (ji23)):Int)<((x4_1.length:Int):Int):=of_decide_eq_true Qc;obtain ⟨go28,co28,eo28,gb28,gl28,cl28,HG28⟩:=R_form HO_4.1 Qe;(first|cases eo28|(injection eo28 with ea_ en_ ec_;(first|subst ea_|(injection ea_ with ea_;subst ea_));subst ec_;clear en_));have GB28:=Am gb28;have GG28:=Am HG28;clear gb28 gl28 HG28;(first|simp only [add_plain] at b4|skip);(first|simp only [add_plain] at b5|skip);(first|simp only [add_plain] at b6|skip);obtain ⟨ce28,hcl28,hM28,hcc28,hfr28⟩:=R_elem HO_4.1 z44 ((rd x5_1 (ji23)):Int) p28 q28;obtain rfl:=k44_openM hM28;have hx28_0:World.cell? _ ⟨go28,((rd x5_1 (ji23)):Int).toNat * 3,none⟩=some (.int .i64 ((rd_T44 x4_1 (rd x5_1 (ji23))).f0)):=hcc28 0 _ rfl;have hx28_1:World.cell? _ ⟨go28,((rd x5_1 (ji23)):Int).toNat * 3+1,none⟩=some (.int .i64 ((rd_T44 x4_1 (rd x5_1 (ji23))).f1)):=hcc28 1 _ rfl;have hx28_2:World.cell? _ ⟨go28,((rd x5_1 (ji23)):Int).toNat * 3+2,none⟩=some (.string ((rd_T44 x4_1 (rd x5_1 (ji23))).f2)):=hcc28 2 _ rfl;have hf28_0:World.frozen? _ ⟨go28,((rd x5_1 (ji23)):Int).toNat * 3,none⟩=false:=hfr28 0;have hf28_1:World.frozen? _ ⟨go28,((rd x5_1 (ji23)):Int).toNat * 3+1,none⟩=false:=hfr28 1;have hf28_2:World.frozen? _ ⟨go28,((rd x5_1 (ji23)):Int).toNat * 3+2,none⟩=false:=hfr28 2;(try clear hcl28);(try clear hcc28);(try clear hfr28);(try clear hM28);obtain ⟨p28,q28⟩:=et2 p28 q28;obtain ⟨ce32,hcl32,hM32,hcc32,hfr32⟩:=R_elem HO_4.1 z44 ((rd x5_1 (ji23)):Int) (of_decide_eq_true Qc) (by have h_:((rd x5_1 (ji23)):Int)<((x4_1.length:Int):Int):=of_decide_eq_true Qc;first|exact h_|(have e_:=(R_reads' HO_4.1).1;omega)|simpa using h_);obtain rfl:=k44_openM hM32;have HP32:=(R_seg HO_4.1 ((rd x5_1 (ji23)):Int) (of_decide_eq_true Qc) (by have h_:((rd x5_1 (ji23)):Int)<((x4_1.length:Int):Int):=of_decide_eq_true Qc;first|exact h_|(have e_:=(R_reads' HO_4.1).1;omega)|simpa using h_) (seg:=[.int .i64 (wrap64 (((rd_T44 x4_1 (rd x5_1 (ji23))).f1)+1))]) (j:=1) hcl32 hcc32 (show 2≤3 from Qa) (x':=(⟨(rd_T44 x4_1 (rd x5_1 (ji23))).f0,wrap64 (((rd_T44 x4_1 (rd x5_1 (ji23))).f1)+1),(rd_T44 x4_1 (rd x5_1 (ji23))).f2⟩:S44)) (k44_mkM _ _ _ (⟨(rd_T44 x4_1 (rd x5_1 (ji23))).f0,wrap64 (((rd_T44 x4_1 (rd x5_1 (ji23))).f1)+1),(rd_T44 x4_1 (rd x5_1 (ji23))).f2⟩:S44) ) (fun _ hk=>hk)).1;rw [← co.1] at HP32;have HQ32:=Am HP32;(try clear hcl32);(try clear hcc32);(try clear hfr32);(try clear hM32);(try clear HP32);refine start_ (n:=21) (S:=fun w'=>w'.cell? (bZ.add ((ji23)).toNat)=some (.int .i64 (rd x5_1 (ji23)))∧w'.cell? (bZ.add ((ji23)).toNat)=some (.int .i64 (rd x5_1 (ji23)))∧w'.cell? (⟨go28,((rd x5_1 (ji23))).toNat * 3,none⟩:Addr)=some (.int .i64 ((rd_T44 x4_1 (rd x5_1 (ji23))).f0))∧w'.cell? (⟨go28,((rd x5_1 (ji23))).toNat * 3+1,none⟩:Addr)=some (.int .i64 ((rd_T44 x4_1 (rd x5_1 (ji23))).f1))∧w'.cell? (⟨go28,((rd x5_1 (ji23))).toNat * 3+2,none⟩:Addr)=some (.string ((rd_T44 x4_1 (rd x5_1 (ji23))).f2))) (ds:=[20]) (bs 21 0) Qb rfl rfl ⟨cf,cg,b4,b5,b6⟩ (fun hHeld=>?_);refine with_tabW spec_TrmRead.tab9 spec_TrmRead.bits9 (fun HT_ HW_=>?_)
         generalize w29.drew=w30 at HO_4 HO_5 q HB GG28 HQ32 hf28_0 hf28_1 hf28_2 cf cg b4 b5 b6 hx28_0 hx28_1 hx28_2 hHeld ⊢
         refine pu_ 33 0 (bs 21 1) HT_.1 ?_;refine pu_ 34 1 (bs 21 3) HT_.1 ?_;refine pu_ 35 2 (bs 21 7) HT_.1 ?_;refine pu_ 36 3 (bs 21 15) HT_.1 ?_;refine pu_ 37 4 (bs 21 31) HT_.1 ?_;refine pu_ 38 5 (bs 21 63) HT_.1 ?_;refine pu_ 40 7 (bs 21 191) HT_.1 ?_;refine pu_ 41 8 (bs 21 447) HT_.1 ?_;refine pu_ 42 9 (bs 21 959) HT_.1 ?_;refine pu_ 43 10 (bs 21 1983) HT_.1 ?_;refine pu_ 44 11 (bs 21 4031) HT_.1 ?_;refine pu_ 45 12 (bs 21 8127) HT_.1 ?_;refine ta_ 39 6 (bs 21 8191) HT_.1 HW_.1 hHeld ?_;refine ta_ 46 13 (bs 21 16383) HT_.1 HW_.1 hHeld ?_;refine pu_ 47 14 (bs 21 32767) HT_.1 ?_;refine pu_ 48 15 (bs 21 65535) HT_.1 ?_;refine ta_ 49 16 (bs 21 131071) HT_.1 HW_.1 hHeld ?_;refine pu_ 50 17 (bs 21 262143) HT_.1 ?_;refine pu_ 51 18 (bs 21 524287) HT_.1 ?_;refine pu_ 52 19 (bs 21 1048575) HT_.1 ?_;refine last_ (i:=20) (N:=none) (bs 21 2097151) rfl rfl (one_of HT_.1 Qb) Qa (fun K hK=>?_);refine skip_ (w1:=?_) (by rfl) rfl ?_ ?_;rotate_left
         ·go_simp
          rfl
         refine hK.out _ _ ?_;clear hK K;refine done_ (done_of HT_.1 Qb) ?_;(try go_wp2);go_meet
         case rel=>exact ⟨_,(cn),(t210),H',⟨by have:=HK1.1;have:=HJ5.1;first|omega|exact Nat.le_refl _⟩,⟨Rp HQ32.1⟩,⟨Rp (R_mono (R_far (p:=⟨go28,((rd x5_1 (ji23)):Int).toNat * 3+1,none⟩) (R_types HO_5.1 GG28.1 Qa) (fun _ hk=>hk.2) (.int .i64 (wrap64 (((rd_T44 x4_1 (rd x5_1 (ji23))).f1)+1)))) (fun _ hk=>trivial))⟩,⟨by (with_reducible repeat (first|refine blk_drewN ?_ _|refine blk_drew ?_|refine blk_alloc ?_ _));refine blk_far ?_ (by have h_:=R_away HO_4.1 (fun _ hk=>hk);intro e_;exact h_ (by rw [e_];rfl)) _;(with_reducible repeat (first|refine blk_drewN ?_ _|refine blk_drew ?_|refine blk_alloc ?_ _));exact q.1⟩,⟨by repeat (first|(with_reducible first|exact HB.1|apply below_alloc|apply pw_below_drewN|apply below_drew1|refine below_set ?_ GB28.1|refine below_set ?_ bf.1)|exact HB.1)⟩⟩
        ·rw [if_neg c22] at H
         have c22b0:=decide_eq_false c22;have c22b1:decide (0<x5_1.length)=false:=decide_eq_false Qe;clear c22;(first|rw [c22b0]|rw [c22b1]|(simp only [i64_w,i32_w];rw [c22b0])|skip);have H':=Am H;clear H;go_wp2;go_meet
         case rel=>exact ⟨_,(x4_1),(t210),H',⟨by have:=HK1.1;have:=HJ5.1;first|omega|exact Nat.le_refl _⟩,⟨Rp (R_mono (R_far (p:=⟨l,2,none⟩) (R_far (p:=⟨l,1,none⟩) (R_far (p:=⟨l,0,none⟩) (R_mono HO_4.1 (fun k_ hk=>(⟨hk,hk.2⟩:_∧k_≠l))) (fun _ hk=>hk.2) (.int .i64 t209)) (fun _ hk=>hk.2) (.int .i64 t210)) (fun _ hk=>hk.2) (.string s)) (fun _ hk=>hk.1.2))⟩,⟨Rp (R_mono (R_far (p:=⟨l,2,none⟩) (R_put2 HO_5.1 q.1) (fun _ hk=>hk.2) (.string s)) (fun _ hk=>trivial))⟩,⟨blkp (blk_put (cs:=#[.int .i64 t209,.int .i64 t210,.string (⟨#[]⟩:BA)]) (blk_put (cs:=#[.int .i64 t209,.int .i64 0,.string (⟨#[]⟩:BA)]) (blk_put (cs:=#[.int .i64 0,.int .i64 0,.string (⟨#[]⟩:BA)]) q.1 0 _ rfl) 1 _ rfl) 2 _ rfl)⟩,⟨QC⟩⟩
       case rest=>
        clear HC17;(try clear c9);(try clear c11);(try clear c11b0);(try clear hcz20_0);(try clear hcz20_1);(try clear hcz20_2);(try clear hfz20_0);(try clear hfz20_1);(try clear hfz20_2);obtain ⟨kq,x4_16,x,HA,HJ16,HO_4,HO_5,q,HB⟩:=hcut;cases kq with
        | zero=>exact absurd HA.1 (by simp [spec_TrmRead.j2])
        | succ kj16=>
         have H:=HA.1;clear HA;simp only [spec_TrmRead.j2] at H;obtain ⟨c33,H⟩:=ifS H;have LMc33:=Am c33;clear c33;obtain ⟨y221,hy221⟩:∃ y_:List (S44),y_=(x4_16++[(⟨t209,x,s⟩:S44)]):=⟨_,rfl⟩;(first|rw [← hy221] at H|skip);try dsimp only [Option.bind_some] at H
         have Ny221:=Am hy221;clear hy221;have HC34:=Am H;clear H;obtain ⟨hcz35_0,hcz35_1,hcz35_2,hfz35_0,hfz35_1,hfz35_2⟩:=blk3 q.1;go_upto_region 12 with (first|((with_reducible refine gate_builtin (b:=.append) (xs:=#[.tmp 53,.tmp 55]) rfl ?_);(try (refine gate_guard (by rfl) ?_;dsimp only));at_builtin;refine R_append k44 (w0:=w) w.heap.size rfl (.tmp 53) (.tmp 55) 27 44 (.agg #[(.int .i64 0),(.int .i64 0),(.string ⟨#[]⟩)]) 32 rfl Tryd.underlying27 info44 rfl Qa Qe u4 x4_16 (⟨t209,x,s⟩:S44) [.int .i64 t209,.int .i64 x,.string s] (fun k_=>k_≠l) (fun _=>False) rfl rfl ?aP (fun _ hk=>hk.elim) ?aF ?aO ?aB ?aS ?aL ?_;(case aP=>exact k44_mkM _ _ _ (⟨t209,x,s⟩:S44));(case aB=>exact QC);(case aF=>exact (fun k_ hk=>Kd.freshB (g:=l) (o:=.cells #[.int .i64 t209,.int .i64 x,.string s] 44 (0,0)) (blkp q.1) k_ hk));(case aO=>exact (Rp HO_4.1));(case aS=>exact (below_size QC));(case aL=>have:=LMc33.1;omega);intro v222 w36 ho hb hg hat;rw [← Ny221.1] at ho;have n_:=as4 (R_over' (Rp HO_5.1) (R_typed (Rp HO_4.1)) Qa hg) (blk_grown (g:=l) (o:=.cells #[.int .i64 t209,.int .i64 x,.string s] 44 (0,0)) (blkp q.1) hg (R_away HO_4.1 (fun _ hk=>hk))) (hb) (ho);clear HO_5 q HB HO_4;obtain ⟨HO_5,q,HB,HO223⟩:=n_;clear ho hb hg hat))
         (try simp only [Act.put,sA_,sZ_,sS_]);go_cut [72] (fun v72 wc=>∃ (kq:Nat) (x72_33:Bool),v72 = .bool x72_33∧Aside0 (spec_TrmRead.j3 kq a0 y221 x5_1 t212 x72_33=some (r1,r2))∧Aside0 (kq≤kj16)∧Aside0 (Kd.R k44 44 wc w.heap.size (fun k_=>k_≠l) v222 y221)∧Aside0 (Kd.R (Kd.int .i64) 3 wc w.heap.size (fun _=>True) (.slice Ao21 x5_1.length co21) x5_1)∧Aside0 (wc.heap[l]?=some (.cells #[.int .i64 t209,.int .i64 x,.string s] 44 (0,0)))∧Aside0 (Below w.heap.size w wc))
         case first=>
          have H:=HC34.1;clear HC34;by_cases c37:t209=3
          ·rw [if_pos c37] at H
           obtain ⟨c37b0,c37b1⟩:=bqP c37;clear c37;(first|rw [c37b0]|rw [c37b1]|(simp only [i64_w,i32_w];rw [c37b0])|skip);by_cases c38:t212<(a0.size:Int)
           ·rw [if_pos c38] at H
            have c38b0:=decide_eq_true c38;clear c38;obtain ⟨c39,H⟩:=ifS H;have c39b0:=decide_eq_true c39;clear c39;have H':=Am H;clear H;obtain ⟨hcz41_0,hcz41_1,hcz41_2,hfz41_0,hfz41_1,hfz41_2⟩:=blk3 q.1;have p40:0≤(t212:Int):=of_decide_eq_true Qc;have q40:t212<(a0.size:Int):=of_decide_eq_true Qc;have hx40:=bt_at a0 t212;obtain ⟨p40,q40⟩:=et2 p40 q40;go_wp2;go_meet
            case rel=>exact ⟨_,(((bt a0 t212) == 40)),Qf,H',⟨Yi⟩,⟨Rp HO223.1⟩,⟨Rp HO_5.1⟩,⟨blkp q.1⟩,⟨QC⟩⟩
           ·rw [if_neg c38] at H
            have c38b0:=decide_eq_false c38;clear c38;have H':=Am H;clear H;obtain ⟨hcz42_0,hcz42_1,hcz42_2,hfz42_0,hfz42_1,hfz42_2⟩:=blk3 q.1;go_wp2;go_meet
            case rel=>exact ⟨_,(false),Qf,H',⟨Yi⟩,⟨Rp HO223.1⟩,⟨Rp HO_5.1⟩,⟨blkp q.1⟩,⟨QC⟩⟩
          ·rw [if_neg c37] at H
           obtain ⟨c37b0,c37b1⟩:=bqN c37;(first|rw [c37b0]|rw [c37b1]|(simp only [i64_w,i32_w];rw [c37b0])|skip);have H':=Am H;clear H;obtain ⟨hcz43_0,hcz43_1,hcz43_2,hfz43_0,hfz43_1,hfz43_2⟩:=blk3 q.1;go_wp2;go_meet
           case rel=>exact ⟨_,(false),Qf,H',⟨Yi⟩,⟨Rp HO223.1⟩,⟨Rp HO_5.1⟩,⟨blkp q.1⟩,⟨QC⟩⟩
         case rest=>
          clear HC34;(try clear c9);(try clear c11);(try clear c11b0);(try clear c33);(try clear hcz20_0);(try clear hcz20_1);(try clear hcz20_2);(try clear hcz35_0);(try clear hcz35_1);(try clear hcz35_2);(try clear hfz20_0);(try clear hfz20_1);(try clear hfz20_2);(try clear hfz35_0);(try clear hfz35_1);(try clear hfz35_2);obtain ⟨kq,x72_33,rfl,HA,HJ33,HO_4,HO_5,q,HB⟩:=hcut;cases kq with
          | zero=>exact absurd HA.1 (by simp [spec_TrmRead.j3])
          | succ kj33=>
           have H:=HA.1;clear HA;simp only [spec_TrmRead.j3] at H;by_cases c44:x72_33=true
           ·subst c44
            rw [if_pos rfl] at H;obtain ⟨c45,H⟩:=ifS H;have LMc45:=Am c45;clear c45;obtain ⟨y224,b7⟩:∃ y_:List Int,y_=(x5_1++[wrap64 ((y221.length:Int) - 1)]):=⟨_,rfl⟩;(first|rw [← b7] at H|skip);try dsimp only [Option.bind_some] at H
            have cr:=Am b7;clear b7;have H':=Am H;clear H;obtain ⟨Ao46,co46,eo46⟩:=R_slice HO_4.1;subst eo46
            go_wp2_with (first|((with_reducible refine gate_builtin (b:=.append) (xs:=#[.tmp 73,.tmp 77]) rfl ?_);(try (refine gate_guard (by rfl) ?_;dsimp only));at_builtin;refine R_append (Kd.int .i64) (w0:=w) w.heap.size rfl (.tmp 73) (.tmp 77) 75 3 (.int .i64 0) 8 rfl Tryd.underlying75 info3 rfl Qa Qe (.slice Ao21 x5_1.length co21) x5_1 (wrap64 ((y221.length:Int) - 1)) [.int .i64 (wrap64 ((y221.length:Int) - 1))] (fun _=>True) (fun _=>False) rfl rfl ?aP (fun _ hk=>hk.elim) ?aF ?aO ?aB ?aS ?aL ?_;(case aP=>exact rfl);(case aB=>exact QC);(case aF=>exact (fun _ _=>trivial));(case aO=>exact (Rp HO_5.1));(case aS=>exact (below_size QC));(case aL=>have:=LMc45.1;omega);intro cJ w47 ho hb hg hat;rw [← cr.1] at ho;have n_:=as4 (R_over' (Rp HO_4.1) (R_typed (Rp HO_5.1)) Qa hg) (blk_grown (g:=l) (o:=.cells #[.int .i64 t209,.int .i64 x,.string s] 44 (0,0)) (blkp q.1) hg (by first|exact R_ne HO_5.1 q.1 Qa|exact fun a4=>(HO_5.1.1 _ a4.symm).2 rfl)) (hb) (ho);clear HO_4 q HB HO_5;obtain ⟨HO_4,q,HB,ct⟩:=n_;clear ho hb hg hat))
            go_roundg kj33
            case measure=>have:=HK1.1;have:=HJ5.1;have:=HJ16.1;have:=HJ33.1;omega
            case rel=>exact ⟨(y221),(y224),(wrap64 (t212+1)),Qf,H',⟨by have:=HK1.1;have:=HJ5.1;have:=HJ16.1;have:=HJ33.1;omega⟩,⟨Rp (R_mono HO_4.1 (fun _ hk=>trivial))⟩,⟨Rp ct.1⟩,⟨QC⟩⟩
           ·replace c44:=Bool.eq_false_iff.mpr c44
            subst c44;rw [if_neg nft] at H;have H':=Am H;clear H;go_wp2
            go_loopg [5,6] kj33 (fun kq v5 v6 w'=>∃ (x5_5:List Int) (x6_5:Int),v6 = .int .i64 x6_5∧Aside0 (spec_TrmRead.l1 kq a0 y221 x5_5 x6_5=some (r1,r2))∧Aside0 (kq≤kj33)∧Aside0 (Kd.R k44 44 w' w.heap.size (fun k_=>k_≠l) v222 y221)∧Aside0 (Kd.R (Kd.int .i64) 3 w' w.heap.size (fun _=>True) v5 x5_5)∧Aside0 (w'.heap[l]?=some (.cells #[.int .i64 t209,.int .i64 x,.string s] 44 (0,0)))∧Aside0 (Below w.heap.size w w'))
            case atStart=>exact ⟨(x5_1),(t212),Qf,H',⟨Nat.le_refl _⟩,⟨Rp HO_4.1⟩,⟨Rp HO_5.1⟩,⟨blkp q.1⟩,⟨QC⟩⟩
            case round=>
             clear H';(try clear c9);(try clear c11);(try clear c11b0);(try clear c33);(try clear c44);(try clear hcz20_0);(try clear hcz20_1);(try clear hcz20_2);(try clear hcz35_0);(try clear hcz35_1);(try clear hcz35_2);(try clear hfz20_0);(try clear hfz20_1);(try clear hfz20_2);(try clear hfz35_0);(try clear hfz35_1);(try clear hfz35_2);obtain ⟨x5_5,x6_5,rfl,HA,HK5,HO_4,HO_5,q,HB⟩:=hrel;cases gk with
             | zero=>exact absurd HA.1 (by simp [spec_TrmRead.l1])
             | succ k5=>
              have H:=HA.1;clear HA;simp only [spec_TrmRead.l1] at H;have b8:=Am H;clear H;go_upto_region 15 with (fail)
              go_cut [95] (fun cu wc=>∃ (kq:Nat) (W:Bool),cu = .bool W∧Aside0 (spec_TrmRead.j5 kq a0 y221 x5_5 x6_5 W=some (r1,r2))∧Aside0 (kq≤k5)∧Aside0 (Kd.R k44 44 wc w.heap.size (fun k_=>k_≠l) v222 y221)∧Aside0 (Kd.R (Kd.int .i64) 3 wc w.heap.size (fun _=>True) u5 x5_5)∧Aside0 (wc.heap[l]?=some (.cells #[.int .i64 t209,.int .i64 x,.string s] 44 (0,0)))∧Aside0 (Below w.heap.size w wc))
              case first=>
               have H:=b8.1;clear b8;by_cases c49:x6_5<(a0.size:Int)
               ·rw [if_pos c49] at H
                have c49b0:=decide_eq_true c49;clear c49;(first|rw [c49b0]|rw [c49b1]|(simp only [i64_w,i32_w];rw [c49b0])|skip);obtain ⟨c50,H⟩:=ifS H;have c50b0:=decide_eq_true c50;clear c50;by_cases c52:(bt a0 x6_5)=41
                ·rw [if_pos c52] at H
                 obtain ⟨c52b0,c52b1⟩:=bqP c52;clear c52;have H':=Am H;clear H;have p51:0≤(x6_5:Int):=of_decide_eq_true Qc;have J:x6_5<(a0.size:Int):=of_decide_eq_true Qc;have cv:=bt_at a0 x6_5;obtain ⟨p51,J⟩:=et2 p51 J;obtain ⟨Ao53,co53,eo53⟩:=R_slice HO_5.1;subst eo53;go_wp2;go_meet
                 case rel=>exact ⟨_,(decide ((x5_5.length:Int) > 0)),Qf,H',⟨Yj⟩,⟨Rp HO_4.1⟩,⟨Rp HO_5.1⟩,⟨blkp q.1⟩,⟨QC⟩⟩
                ·rw [if_neg c52] at H
                 obtain ⟨c52b0,c52b1⟩:=bqN c52;have H':=Am H;clear H;have p51:0≤(x6_5:Int):=of_decide_eq_true Qc;have J:x6_5<(a0.size:Int):=of_decide_eq_true Qc;have cv:=bt_at a0 x6_5;obtain ⟨p51,J⟩:=et2 p51 J;go_wp2;go_meet
                 case rel=>exact ⟨_,(false),Qf,H',⟨Yj⟩,⟨Rp HO_4.1⟩,⟨Rp HO_5.1⟩,⟨blkp q.1⟩,⟨QC⟩⟩
               ·rw [if_neg c49] at H
                have c49b0:=decide_eq_false c49;clear c49;(first|rw [c49b0]|rw [c49b1]|(simp only [i64_w,i32_w];rw [c49b0])|skip);have H':=Am H;clear H;go_wp2;go_meet
                case rel=>exact ⟨_,(false),Qf,H',⟨Yj⟩,⟨Rp HO_4.1⟩,⟨Rp HO_5.1⟩,⟨blkp q.1⟩,⟨QC⟩⟩
              case rest=>
               clear b8;(try clear c9);(try clear c11);(try clear c11b0);(try clear c33);(try clear c44);(try clear hcz20_0);(try clear hcz20_1);(try clear hcz20_2);(try clear hcz35_0);(try clear hcz35_1);(try clear hcz35_2);(try clear hfz20_0);(try clear hfz20_1);(try clear hfz20_2);(try clear hfz35_0);(try clear hfz35_1);(try clear hfz35_2);obtain ⟨kq,W,rfl,HA,bh,HO_4,HO_5,q,HB⟩:=hcut;cases kq with
               | zero=>exact absurd HA.1 (by simp [spec_TrmRead.j5])
               | succ L=>
                have H:=HA.1;clear HA;simp only [spec_TrmRead.j5] at H;by_cases c54:W=true
                ·subst c54
                 rw [if_pos rfl] at H;obtain ⟨z,b9⟩:∃ j_:Int,(wrap64 ((x5_5.length:Int) - 1))=j_:=⟨_,rfl⟩;replace H:(if 0≤(z) then (if (z)≤(x5_5.length:Int) then (spec_TrmRead.l1 L a0 y221 (x5_5.take ((z):Int).toNat) (wrap64 (x6_5+1))) else (none)) else (none))=some (r1,r2):=by first|(rw [b9] at H;exact H)|(simp only [b9] at H ⊢;exact H)
                 have cK:(IntKind.i64.wrap ((x5_5.length:Int) - 1))=z:=(i64_w _).trans b9;obtain ⟨ca,H⟩:=ifS H;have cL:=eq_true ca;have cM:=decide_eq_true ca;clear ca;obtain ⟨cb,H⟩:=ifS H;have cN:=eq_true cb;have cO:=decide_eq_true cb;clear cb;obtain ⟨y227,hy227⟩:∃ y_:List Int,y_=(x5_5.take ((z):Int).toNat):=⟨_,rfl⟩;(first|rw [← hy227] at H|skip);try dsimp only [Option.bind_some] at H
                 have Ny227:=Am hy227;clear hy227;have H':=Am H;clear H;obtain ⟨Ao58,co58,eo58⟩:=R_slice HO_5.1;subst eo58;have cc:((z):Int)≤((x5_5.length:Int):Int):=of_decide_eq_true Qc;obtain ⟨cP,ch,_,cw,_⟩:=info_parts info3;have cx:=cut_to (P:=Tryd.prog) 75 3 .i64 Tryd.underlying75 ch Ao58 x5_5.length co58 (z) (of_decide_eq_true Qc) cc (R_reads' HO_5.1).2.1;have X:=R_take (m:=((z):Int).toNat) HO_5.1 Qe;have ci:y227.length=((z):Int).toNat:=(by rw [Ny227.1,List.length_take];omega);rw [← Ny227.1] at X;rw [← ci] at X cx;clear ci ch cw HO_5;have cy:=Am X;clear X;replace cc:=eq_true cc;go_wp2;go_roundg L
                 case measure=>have:=HK1.1;have:=HJ5.1;have:=HJ16.1;have:=HJ33.1;have:=HK5.1;have:=bh.1;omega
                 case rel=>exact ⟨(y227),(wrap64 (x6_5+1)),Qf,H',⟨Z4⟩,⟨Rp HO_4.1⟩,⟨Rp cy.1⟩,⟨blkp q.1⟩,⟨QC⟩⟩
                ·replace c54:=Bool.eq_false_iff.mpr c54
                 subst c54;rw [if_neg nft] at H;by_cases D:x6_5<(a0.size:Int)
                 ·rw [if_pos D] at H
                  have cz:=decide_eq_true D;clear D;obtain ⟨cj,H⟩:=ifS H;have cQ:=decide_eq_true cj;clear cj;by_cases c63:(bt a0 x6_5)=44
                  ·rw [if_pos c63] at H
                   obtain ⟨c63b0,c63b1⟩:=bqP c63;clear c63;have H':=Am H;clear H;have p62:0≤(x6_5:Int):=of_decide_eq_true Qc;have q62:x6_5<(a0.size:Int):=of_decide_eq_true Qc;have hx62:=bt_at a0 x6_5;obtain ⟨p62,q62⟩:=et2 p62 q62;go_wp2;go_roundg L
                   case measure=>have:=HK1.1;have:=HJ5.1;have:=HJ16.1;have:=HJ33.1;have:=HK5.1;have:=bh.1;omega
                   case rel=>exact ⟨(y221),(x5_5),(wrap64 (x6_5+1)),Qf,H',⟨Z4⟩,⟨Rp (R_mono HO_4.1 (fun _ hk=>trivial))⟩,⟨Rp HO_5.1⟩,⟨QC⟩⟩
                  ·rw [if_neg c63] at H
                   obtain ⟨c63b0,c63b1⟩:=bqN c63;have H':=Am H;clear H;have p62:0≤(x6_5:Int):=of_decide_eq_true Qc;have q62:x6_5<(a0.size:Int):=of_decide_eq_true Qc;have hx62:=bt_at a0 x6_5;obtain ⟨p62,q62⟩:=et2 p62 q62;go_wp2;go_roundg L
                   case measure=>have:=HK1.1;have:=HJ5.1;have:=HJ16.1;have:=HJ33.1;have:=HK5.1;have:=bh.1;omega
                   case rel=>exact ⟨(y221),(x5_5),(x6_5),Qf,H',⟨Z4⟩,⟨Rp (R_mono HO_4.1 (fun _ hk=>trivial))⟩,⟨Rp HO_5.1⟩,⟨QC⟩⟩
                 ·rw [if_neg D] at H
                  have cz:=decide_eq_false D;clear D;have H':=Am H;clear H;go_wp2;go_roundg L
                  case measure=>have:=HK1.1;have:=HJ5.1;have:=HJ16.1;have:=HJ33.1;have:=HK5.1;have:=bh.1;omega
                  case rel=>exact ⟨(y221),(x5_5),(x6_5),Qf,H',⟨Z4⟩,⟨Rp (R_mono HO_4.1 (fun _ hk=>trivial))⟩,⟨Rp HO_5.1⟩,⟨QC⟩⟩
     ·replace c9:=Bool.eq_false_iff.mpr c9
      subst c9;rw [if_neg nft] at H;obtain ⟨B,A64,H⟩:=bnd H;(try dsimp only at H);by_cases c65:B.toList=a0.toList
      ·rw [if_pos c65] at H
       obtain ⟨c65b0,c65b1⟩:=bqP c65;clear c65;by_cases c66:a0.toList=([]:List UInt8)
       ·rw [if_pos c66] at H
        obtain ⟨c66b0,c66b1⟩:=bqP c66;clear c66;obtain ⟨y231,hy231⟩:∃ y_:List (S44),y_=(([]:List (S44))):=⟨_,rfl⟩;(first|rw [← hy231] at H|skip);try dsimp only [Option.bind_some] at H
        have Ny231:=Am hy231;clear hy231;simp only [Option.some.injEq,Prod.mk.injEq] at H;obtain ⟨rfl,rfl⟩:=H;obtain ⟨Ao67,co67,eo67⟩:=R_slice HO_4.1;subst eo67
        go_wp2_with (first|(go_at_call 19;(with_reducible refine (spec_TrmText.calls kj5 _ _ x4_1 B _ ?side1 ?side2 A64.1).mono ?_);(case side1=>exact Yk);(case side2=>exact (R_reads' HO_4.1).2.1);rintro e w68 ⟨rfl,hb⟩;have n_:=as3 (R_below (Rp HO_4.1) hb) (R_below (Rp HO_5.1) hb) (below_step Qd hb);clear HO_4 HO_5 HB;obtain ⟨HO_4,HO_5,HB⟩:=n_;clear hb)|((with_reducible refine gate_dst (N:=123) rfl ?_);(try (refine gate_guard (by rfl) ?_;dsimp only));refine R_lit k44 _ 44 ?hg (N:=123) ?hd (xs:=([]:List (S44))) (inner:=[]) (ok:=fun _=>True) (okp:=fun _=>True) ?hr ?hp (fun _ hk=>hk) trivial (Below.refl _ _) (Nat.le_refl _) Qj ?_;(case hd=>rfl);(case hg=>rfl);(case hr=>first|(go_simp;done)|(go_simp;rfl));(case hp=>exact (Reps.none _ _));intro v232 w69 ho70 hb hg_ hnew_;clear hg_ hnew_;(first|rw [← Ny231.1] at ho70|(simp only [Int.reduceToNat] at ho70;rw [← Ny231.1] at ho70));have n_:=as4 (R_elder' (Rp HO_4.1) (R_base ho70) hb) (R_below (Rp HO_5.1) hb) (R_lower (R_new' ho70 (R_lt (Rp HO_4.1))) (below_size Qd)) (below_step Qd hb);clear HO_4 HO_5 HB;obtain ⟨HO_4,HO_5,HO233,HB⟩:=n_;clear hb ho70))
        go_ret2;exact ⟨_,Qg,by (with_reducible repeat (first|apply R_alloc|apply R_drewN|apply R_drew));exact R_mono HO233.1 (fun _ hk=>trivial),Qd⟩
       ·rw [if_neg c66] at H
        obtain ⟨c66b0,c66b1⟩:=bqN c66;simp only [Option.some.injEq,Prod.mk.injEq] at H;obtain ⟨rfl,rfl⟩:=H;obtain ⟨Ao71,co71,eo71⟩:=R_slice HO_4.1;subst eo71
        go_wp2_with (first|(go_at_call 19;(with_reducible refine (spec_TrmText.calls kj5 _ _ x4_1 B _ ?side1 ?side2 A64.1).mono ?_);(case side1=>exact Yk);(case side2=>exact (R_reads' HO_4.1).2.1);rintro e w72 ⟨rfl,hb⟩;have n_:=as3 (R_below (Rp HO_4.1) hb) (R_below (Rp HO_5.1) hb) (below_step Qd hb);clear HO_4 HO_5 HB;obtain ⟨HO_4,HO_5,HB⟩:=n_;clear hb))
        go_ret2;exact ⟨_,Qg,by (with_reducible repeat (first|apply R_alloc|apply R_drewN|apply R_drew));exact HO_4.1,Qd⟩
      ·rw [if_neg c65] at H
       obtain ⟨c65b0,c65b1⟩:=bqN c65;obtain ⟨y234,hy234⟩:∃ y_:List (S44),y_=(([]:List (S44))):=⟨_,rfl⟩;(first|rw [← hy234] at H|skip);try dsimp only [Option.bind_some] at H
       have Ny234:=Am hy234;clear hy234;simp only [Option.some.injEq,Prod.mk.injEq] at H;obtain ⟨rfl,rfl⟩:=H;obtain ⟨Ao73,co73,eo73⟩:=R_slice HO_4.1;subst eo73
       go_wp2_with (first|(go_at_call 19;(with_reducible refine (spec_TrmText.calls kj5 _ _ x4_1 B _ ?side1 ?side2 A64.1).mono ?_);(case side1=>exact Yk);(case side2=>exact (R_reads' HO_4.1).2.1);rintro e w74 ⟨rfl,hb⟩;have n_:=as3 (R_below (Rp HO_4.1) hb) (R_below (Rp HO_5.1) hb) (below_step Qd hb);clear HO_4 HO_5 HB;obtain ⟨HO_4,HO_5,HB⟩:=n_;clear hb)|((with_reducible refine gate_dst (N:=123) rfl ?_);(try (refine gate_guard (by rfl) ?_;dsimp only));refine R_lit k44 _ 44 ?hg (N:=123) ?hd (xs:=([]:List (S44))) (inner:=[]) (ok:=fun _=>True) (okp:=fun _=>True) ?hr ?hp (fun _ hk=>hk) trivial (Below.refl _ _) (Nat.le_refl _) Qj ?_;(case hd=>rfl);(case hg=>rfl);(case hr=>first|(go_simp;done)|(go_simp;rfl));(case hp=>exact (Reps.none _ _));intro cR w75 ho76 hb hg_ hnew_;clear hg_ hnew_;(first|rw [← Ny234.1] at ho76|(simp only [Int.reduceToNat] at ho76;rw [← Ny234.1] at ho76));have n_:=as4 (R_elder' (Rp HO_4.1) (R_base ho76) hb) (R_below (Rp HO_5.1) hb) (R_lower (R_new' ho76 (R_lt (Rp HO_4.1))) (below_size Qd)) (below_step Qd hb);clear HO_4 HO_5 HB;obtain ⟨HO_4,HO_5,HO236,HB⟩:=n_;clear hb ho76))
       go_ret2;exact ⟨_,Qg,by (with_reducible repeat (first|apply R_alloc|apply R_drewN|apply R_drew));exact R_mono HO236.1 (fun _ hk=>trivial),Qd⟩
def spec_l3Cut.l0:Nat→ByteArray→ByteArray→Int→Option (ByteArray × ByteArray × Bool)
 | 0,_,_,_=>none
 | k+1,x0,x7,x8=>if (wrap64 (x8+(x7.size:Int)))≤(x0.size:Int) then (if 0≤x8 then (if x8≤(wrap64 (x8+(x7.size:Int))) then (if (x0.extract (x8:Int).toNat ((wrap64 (x8+(x7.size:Int))):Int).toNat).toList=x7.toList then (if x8≤(x0.size:Int) then (if 0≤(wrap64 (x8+(x7.size:Int))) then (some (x0.extract 0 (x8:Int).toNat,x0.extract ((wrap64 (x8+(x7.size:Int))):Int).toNat x0.size,true)) else (none)) else (none)) else (spec_l3Cut.l0 k x0 x7 (wrap64 (x8+1)))) else (none)) else (none)) else (some (x0,(⟨#[]⟩:BA),false))
def spec_l3Cut.f (k:Nat) (a0:ByteArray) (a1:ByteArray):Option (ByteArray × ByteArray × Bool):=if 1+a1.size≤9223372036854775807 then (if ((⟨#[32]⟩:BA)++a1).size+1≤9223372036854775807 then (spec_l3Cut.l0 k a0 (((⟨#[32]⟩:BA)++a1)++(⟨#[32]⟩:BA)) 0) else (none)) else (none)
theorem spec_l3Cut.calls (k:Nat) (a0:ByteArray) (a1:ByteArray) (r1:ByteArray) (r2:ByteArray) (r3:Bool) (w:World) (h:spec_l3Cut.f k a0 a1=some (r1,r2,r3)) :
  Calls Tryd.prog 102 #[.string a0,.string a1] w fun e w'=>e = .returned (.tuple #[.string r1,.string r2,.bool r3])∧Drawn0 w w':=by
 have H:(if 1+a1.size≤9223372036854775807 then (if ((⟨#[32]⟩:BA)++a1).size+1≤9223372036854775807 then (spec_l3Cut.l0 k a0 (((⟨#[32]⟩:BA)++a1)++(⟨#[32]⟩:BA)) 0) else (none)) else (none))=some (r1,r2,r3):=h;clear h;obtain ⟨c3,H⟩:=ifS H;have c3b0:=eq_true c3;have c3b1:=decide_eq_true c3;(try have c3b2:(9223372036854775807<1+a1.size)=False:=eq_false (Nat.not_lt.2 c3));obtain ⟨c4,H⟩:=ifS H;have c4b0:=eq_true c4;have c4b1:=decide_eq_true c4;(try (have cA:=c4b1;simp only [ByteArray.size_append,(show (⟨#[32]⟩:BA).size=1 from rfl)] at cA));(try have c4b2:(9223372036854775807<((⟨#[32]⟩:BA)++a1).size+1)=False:=eq_false (Nat.not_lt.2 c4));(try (have cC:=c4b2;simp only [ByteArray.size_append,(show (⟨#[32]⟩:BA).size=1 from rfl)] at cC));have H':=Am H;clear H;go_enter Tryd.func102,Tryd.ntmps102;go_wp2
 repeat (go_quiet (fail);try go_wp2)
 generalize hwd:(((⟨#[32]⟩:BA)++a1)++(⟨#[32]⟩:BA))=wd at H' ⊢
 clear hwd
 go_loopg [8] k (fun kq v8 w'=>∃ (x8_1:Int),v8 = .int .i64 x8_1∧Aside0 (spec_l3Cut.l0 kq a0 wd x8_1=some (r1,r2,r3))∧Aside0 (kq≤k)∧Drawn0 w w')
 case atStart=>exact ⟨(0),Qf,H',⟨Nat.le_refl _⟩,Qp⟩
 case round=>
  clear H';obtain ⟨x8_1,rfl,HA,HK1,⟨m1,rfl⟩⟩:=hrel;cases gk with
  | zero=>exact absurd HA.1 (by simp [spec_l3Cut.l0])
  | succ k1=>
   have H:=HA.1;clear HA;simp only [spec_l3Cut.l0] at H;by_cases c5:(wrap64 (x8_1+(wd.size:Int)))≤(a0.size:Int)
   ·rw [if_pos c5] at H
    have c5b0:=decide_eq_true c5;clear c5;obtain ⟨c6,H⟩:=ifS H;have c6b0:=eq_true c6;have c6b1:=decide_eq_true c6;clear c6;obtain ⟨c7,H⟩:=ifS H;have c7b0:=eq_true c7;have c7b1:=decide_eq_true c7;have c8b0:=eq_true (of_decide_eq_true Qc:(wrap64 (x8_1+(wd.size:Int)))≤(a0.size:Int));by_cases c9:(a0.extract (x8_1:Int).toNat ((wrap64 (x8_1+(wd.size:Int))):Int).toNat).toList=wd.toList
    ·rw [if_pos c9] at H
     obtain ⟨c9b0,c9b1⟩:=bqP c9;clear c9;have c10b0:=eq_true (of_decide_eq_true Qc:0≤x8_1);obtain ⟨c11,H⟩:=ifS H;have c11b0:=eq_true c11;have c11b1:=decide_eq_true c11;clear c11;obtain ⟨ji12,hji12⟩:∃ j_:Int,(wrap64 (x8_1+(wd.size:Int)))=j_:=⟨_,rfl⟩;replace H:(if 0≤(ji12) then (some (a0.extract 0 (x8_1:Int).toNat,a0.extract ((ji12):Int).toNat a0.size,true)) else (none))=some (r1,r2,r3):=by first|(rw [hji12] at H;exact H)|(simp only [hji12] at H ⊢;exact H)
     (try rw [hji12] at c5b0);(try rw [hji12] at c7b0);(try rw [hji12] at c7b1);(try rw [hji12] at c7);(try rw [hji12] at c9b0);(try rw [hji12] at c9b1);have hji12w:(IntKind.i64.wrap (x8_1+(wd.size:Int)))=ji12:=(i64_w _).trans hji12;obtain ⟨c13,H⟩:=ifS H;have c13b0:=eq_true c13;have c13b1:=decide_eq_true c13;clear c13;have c14b0:=eq_true (of_decide_eq_true Qc:(ji12)≤(a0.size:Int));simp only [Option.some.injEq,Prod.mk.injEq] at H;obtain ⟨rfl,rfl,rfl⟩:=H;go_wp2
     repeat (go_quiet (fail);try go_wp2)
     go_ret3;exact ⟨by first|rfl|(simp;done)|(simp only [← hji12] <;> (first|rfl|simp))|(simp [*];done),Qp⟩
    ·rw [if_neg c9] at H
     obtain ⟨c9b0,c9b1⟩:=bqN c9;have H':=Am H;clear H;go_wp2
     repeat (go_quiet (fail);try go_wp2)
     go_roundg k1
     case measure=>have:=HK1.1;omega
     case rel=>exact ⟨(wrap64 (x8_1+1)),Qf,H',⟨QA⟩,Qp⟩
   ·rw [if_neg c5] at H
    have c5b0:=decide_eq_false c5;clear c5;simp only [Option.some.injEq,Prod.mk.injEq] at H;obtain ⟨rfl,rfl,rfl⟩:=H;go_wp2
    repeat (go_quiet (fail);try go_wp2)
    go_ret3;exact ⟨Qf,Qp⟩
def spec_l3Read.l0:Nat→List ByteArray→List (List (S44))→Int→Option ((List (List (S44))) × Bool)
 | 0,_,_,_=>none
 | k+1,x0,x4,x5=>if x5<(x0.length:Int) then (if 0≤x5 then ((spec_TrmRead.f k (rdOf ByteArray.empty x0 x5)).bind fun bt241=>(if bt241.2=true then (if x4.length<5864062014805 then (spec_l3Read.l0 k x0 (x4++[bt241.1]) (wrap64 (x5+1))) else (none)) else (some (x4,false)))) else (none)) else (some (x4,true))
def spec_l3Read.f (k:Nat) (l0:List ByteArray):Option ((List (List (S44))) × Bool):=spec_l3Read.l0 k l0 (([]:List (List (S44)))) 0
theorem spec_l3Read.calls (k:Nat) (A0:Option Addr) (c0:Nat) (l0:List ByteArray) (r1:List (List (S44))) (r2:Bool) (w:World) (hr0:Kd.C Kd.string w A0 l0.length l0) (hc0:l0.length≤c0) (h:spec_l3Read.f k l0=some (r1,r2)) :
  Calls Tryd.prog 113 #[.slice A0 l0.length c0] w fun e w'=>∃ v0_:Value,e = .returned (.tuple #[v0_,.bool r2])∧Kd.S (Kd.slice 44 k44) 27 w' w.heap.size (fun _=>True) v0_ r1∧Below w.heap.size w w':=by
 have HR0:=Am hr0;have HC0:=Am hc0;clear hr0 hc0;have HB:=Am (Below.refl w.heap.size w);have H:(spec_l3Read.l0 k l0 (([]:List (List (S44)))) 0)=some (r1,r2):=h;clear h;obtain ⟨y237,hy237⟩:∃ y_:List (List (S44)),y_=(([]:List (List (S44)))):=⟨_,rfl⟩;(first|rw [← hy237] at H|skip);try dsimp only [Option.bind_some] at H
 have Ny237:=Am hy237;clear hy237;have H':=Am H;clear H;go_enter Tryd.func113,Tryd.ntmps113
 go_wp2_with (first|((with_reducible refine gate_dst (N:=8) rfl ?_);refine S_lit (Kd.slice 44 k44) _ 27 ?hg (N:=8) ?hd (xs:=([]:List (List (S44)))) (inner:=[]) (ok:=fun _=>True) (okp:=fun _=>True) ?hr ?hp (fun _ hk=>hk) trivial (Below.refl _ _) (Nat.le_refl _) Qj ?_;(case hd=>rfl);(case hg=>rfl);(case hr=>first|(go_simp;done)|(go_simp;rfl));(case hp=>exact (Reps.none _ _));intro v238 w2 ho3 hb hg_ hnew_;clear hg_ hnew_;(first|rw [← Ny237.1] at ho3|(simp only [Int.reduceToNat] at ho3;rw [← Ny237.1] at ho3));have n_:=as2 (S_lower ho3 (below_size Qd)) (below_step Qd hb);clear HB;obtain ⟨HO239,HB⟩:=n_;clear hb ho3))
 go_loopg [4,5] k (fun kq v4 v5 w'=>∃ (x4_1:List (List (S44))) (x5_1:Int),v5 = .int .i64 x5_1∧Aside0 (spec_l3Read.l0 kq l0 x4_1 x5_1=some (r1,r2))∧Aside0 (kq≤k)∧Aside0 (Kd.S (Kd.slice 44 k44) 27 w' w.heap.size (fun _=>True) v4 x4_1)∧Aside0 (Below w.heap.size w w'))
 case atStart=>exact ⟨(y237),(0),Qf,H',⟨Nat.le_refl _⟩,⟨Sp HO239.1⟩,⟨Qd⟩⟩
 case round=>
  clear H';obtain ⟨x4_1,x5_1,rfl,HA,HK1,HO_4,HB⟩:=hrel;cases gk with
  | zero=>exact absurd HA.1 (by simp [spec_l3Read.l0])
  | succ k1=>
   have H:=HA.1;clear HA;simp only [spec_l3Read.l0] at H;by_cases c4:x5_1<(l0.length:Int)
   ·rw [if_pos c4] at H
    have c4b0:=decide_eq_true c4;clear c4;obtain ⟨c5,H⟩:=ifS H;have c5b0:=decide_eq_true c5;clear c5;obtain ⟨⟨t241,t242⟩,A6,H⟩:=bnd H;(try dsimp only at H);have ck:=Am H;clear H;have p240:0≤(x5_1:Int):=of_decide_eq_true Qc;have q240:x5_1<(l0.length:Int):=of_decide_eq_true Qc;obtain ⟨ad240,e240,hx240_0⟩:=Kd.at_string HR0.1 x5_1 p240 q240;cases e240
    replace hx240_0:=cB hx240_0 HB.1;obtain ⟨p240,q240⟩:=et2 p240 q240;go_upto_if 24 with (first|(go_at_call 27;(with_reducible refine (spec_TrmRead.calls k1 (rdOf ByteArray.empty l0 x5_1) t241 t242 _ A6.1).mono ?_);rintro e w8 ⟨v243,rfl,ho0,hb⟩;have n_:=as3 (S_elder' (Sp HO_4.1) (R_base ho0) hb) (R_lower ho0 (below_size Qd)) (below_step Qd hb);clear HO_4 HB;obtain ⟨HO_4,HO244,HB⟩:=n_;clear hb ho0))
    (try simp only [Act.put,sA_,sZ_,sS_]);have H:=ck.1;clear ck;by_cases c9:t242=true
    ·subst c9
     rw [if_pos rfl] at H;obtain ⟨c10,H⟩:=ifS H;have cD:=Am c10;clear c10;obtain ⟨y245,hy245⟩:∃ y_:List (List (S44)),y_=(x4_1++[t241]):=⟨_,rfl⟩;(first|rw [← hy245] at H|skip);try dsimp only [Option.bind_some] at H
     have Ny245:=Am hy245;clear hy245;have H':=Am H;clear H;obtain ⟨Ao12,co12,eo12⟩:=R_slice HO244.1;subst eo12
     go_wp2_with (first|((with_reducible refine gate_builtin (b:=.append) (xs:=#[.tmp 26,.tmp 28]) rfl ?_);at_builtin;refine S_append (Kd.slice 44 k44) (w0:=w) w.heap.size rfl (.tmp 26) (.tmp 28) 48 27 (.slice none 0 0) 24 rfl Tryd.underlying48 info27 rfl Qa Qe u4 x4_1 t241 [.slice Ao12 t241.length co12] (fun _=>True) (fun k_=>some k_=(.slice Ao12 t241.length co12:Value).ownBlock) rfl rfl ?aP (fun k_ hk_=>((R_mono (ok':=fun k_=>((fun _=>True)) k_∧some k_≠(u4:Value).ownBlock) (R_apart' (HO244.1) (S_typed HO_4.1) Qa) (fun k_ hk=>⟨trivial,hk.2⟩))).1 k_ hk_.symm) ?aF ?aO ?aB ?aS ?aL ?_;(case aP=>exact M_row (R_mono (R_tight rfl (R_mono (ok':=fun k_=>((fun _=>True)) k_∧some k_≠(u4:Value).ownBlock) (R_apart' (HO244.1) (S_typed HO_4.1) Qa) (fun k_ hk=>⟨trivial,hk.2⟩))) (fun _ h_=>h_)));(case aB=>exact Qd);(case aF=>exact (fun _ _=>trivial));(case aO=>exact (Sp (S_mono HO_4.1 (fun k_ hk=>⟨trivial,fun e_=>hk.2 e_⟩))));(case aS=>exact (below_size Qd));(case aL=>have:=cD.1;omega);intro v246 w11 ho hb hg hat;rw [← Ny245.1] at ho;have n_:=as2 (hb) (ho);clear HB HO_4 HO244;obtain ⟨HB,HO247⟩:=n_;clear ho hb hg hat))
     go_roundg k1
     case measure=>have:=HK1.1;omega
     case rel=>exact ⟨(y245),(wrap64 (x5_1+1)),Qf,H',⟨QA⟩,⟨Sp HO247.1⟩,⟨Qd⟩⟩
    ·replace c9:=Bool.eq_false_iff.mpr c9
     subst c9;rw [if_neg nft] at H;simp only [Option.some.injEq,Prod.mk.injEq] at H;obtain ⟨rfl,rfl⟩:=H;go_wp2;go_ret2;exact ⟨_,Qg,by (with_reducible repeat (first|apply S_alloc|apply S_drewN|apply S_drew));exact S_mono HO_4.1 (fun _ hk=>trivial),Qd⟩
   ·rw [if_neg c4] at H
    have c4b0:=decide_eq_false c4;clear c4;simp only [Option.some.injEq,Prod.mk.injEq] at H;obtain ⟨rfl,rfl⟩:=H;go_wp2;go_ret2;exact ⟨_,Qg,by (with_reducible repeat (first|apply S_alloc|apply S_drewN|apply S_drew));exact HO_4.1,Qd⟩
end Go.Proofs.YtlhniagacegbeaaDoor.P
