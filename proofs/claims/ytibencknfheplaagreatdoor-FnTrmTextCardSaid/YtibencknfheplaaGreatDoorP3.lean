/- Contracts of functions of the program: each as a Lean function, and that its call does what that says; printed by cprint.py (this session) over print.py of the kit. Conditions: the hypotheses of each theorem. -/
import Derived.Test.YtibencknfheplaaGreatDoorVZ
import Derived.Test.YtibencknfheplaaGreatDoorP0
import Derived.Test.YtibencknfheplaaGreatDoorP2
namespace Go.Proofs.YtibencknfheplaaGreatDoor.P
open Go.RowKit Go.Proofs.YtibencknfheplaaGreatDoorW.PrintWords Go.Proofs.YtibencknfheplaaGreatDoorW.PrintLast Go.Proofs.YtibencknfheplaaGreatDoorW.PrintMore
attribute [local go_sem] max2_int min2_int max_two min_two max_three min_three max_four min_four   -- for this text's walks alone
set_option linter.unusedVariables false
set_option linter.unusedSimpArgs false

/-! ### spec_TrmOk: function 12 -/
mutual
def spec_TrmOk.j0:Nat→List (S43)→Bool→Option (Bool)
 | 0,_,_=>none
 | k+1,x0,x11=>if x11=true then (some false) else (spec_TrmOk.l0 k x0 0)
def spec_TrmOk.l0:Nat→List (S43)→Int→Option (Bool)
 | 0,_,_=>none
 | k+1,x0,x3=>if x3<(x0.length:Int) then (if 0≤x3 then ((spec_l1Cell.f k ((rd_T43 x0 x3).f0) ((rd_T43 x0 x3).f1) ((rd_T43 x0 x3).f2)).bind fun t227=>(if t227=true then (spec_TrmOk.l0 k x0 (wrap64 (x3+1))) else (some false))) else (none)) else ((spec_l1End.f k x0 0).bind fun t225=>(some (t225 == (x0.length:Int))))
end
def spec_TrmOk.f (k:Nat) (l0:List (S43)):Option (Bool):=if (l0.length:Int)=0 then (spec_TrmOk.j0 k l0 true) else (spec_TrmOk.j0 k l0 (decide ((l0.length:Int) > 40)))
set_option maxHeartbeats 8000000 in
set_option maxRecDepth 100000 in
theorem spec_TrmOk.calls (k:Nat) (A0:Option Addr) (c0:Nat) (l0:List (S43)) (r:Bool) (w:World) (hr0:Kd.C k43 w A0 l0.length l0) (hc0:l0.length≤c0) (h:spec_TrmOk.f k l0=some r) :
  Calls Tryz.prog 12 #[.slice A0 l0.length c0] w fun e w'=>e = .returned (.bool r)∧Below w.heap.size w w':=by
 have hu43:=Tryz.underlying43
 have HR0:=Aside0.mk hr0
 have HC0:=Aside0.mk hc0
 clear hr0 hc0
 have HB:=Aside0.mk (Below.refl w.heap.size w)
 have H:(if (l0.length:Int)=0 then (spec_TrmOk.j0 k l0 true) else (spec_TrmOk.j0 k l0 (decide ((l0.length:Int) > 40))))=some r:=h
 clear h
 have HC2:=Aside0.mk H
 clear H
 go_enter Tryz.func12,Tryz.ntmps12
 go_upto_region 1 with (fail)
 go_cut [11] (fun v11 wc=>∃ (kq:Nat) (x11_1:Bool),v11 = .bool x11_1∧Aside0 (spec_TrmOk.j0 kq l0 x11_1=some r)∧Aside0 (kq≤k)∧Aside0 (Below w.heap.size w wc))
 case first=>
  have H:=HC2.out
  clear HC2
  by_cases c3:(l0.length:Int)=0
  ·rw [if_pos c3] at H
   have c3b0:((l0.length:Int) == 0)=true:=beq_iff_eq.mpr c3
   have c3b1:((l0.length:Int) != 0)=false:=bne_eq_false_iff_eq.mpr c3
   clear c3
   (first|rw [c3b0]|rw [c3b1]|(simp only [i64_w,i32_w];rw [c3b0])|skip)
   have H':=Aside0.mk H
   clear H
   go_wp2
   go_meet
   case rel=>exact ⟨_,(true),qz9,H',⟨qz49⟩,⟨qz7⟩⟩
  ·rw [if_neg c3] at H
   have c3b0:((l0.length:Int) == 0)=false:=beq_eq_false_iff_ne.mpr c3
   have c3b1:((l0.length:Int) != 0)=true:=bne_iff_ne.mpr c3
   have c3b2:¬ (l0=[]):=fun h_=>c3 (by rw [h_];rfl)
   (first|rw [c3b0]|rw [c3b1]|(simp only [i64_w,i32_w];rw [c3b0])|skip)
   have H':=Aside0.mk H
   clear H
   go_wp2
   go_meet
   case rel=>exact ⟨_,(decide ((l0.length:Int) > 40)),qz9,H',⟨qz49⟩,⟨qz7⟩⟩
 case rest=>
  clear HC2
  try clear c1
  try clear p2
  try clear c3
  try clear c3b0
  try clear c3b1
  try clear c3b2
  obtain ⟨kq,x11_1,rfl,HA,HJ1,HB⟩:=hcut
  cases kq with
  | zero=>exact absurd HA.out (by simp [spec_TrmOk.j0])
  | succ kj1=>
   have H:=HA.out
   clear HA
   simp only [spec_TrmOk.j0] at H
   by_cases c4:x11_1=true
   ·subst c4
    have H1:(some false)=some r:=qz42
    clear H
    have H:=H1
    clear H1
    obtain rfl:=Option.some.inj H
    go_wp2
    go_ret
    exact ⟨qz8,qz7⟩
   ·replace c4:=Bool.eq_false_iff.mpr c4
    subst c4
    have H1:(spec_TrmOk.l0 kj1 l0 0)=some r:=qz26
    clear H
    have H:=H1
    clear H1
    have H':=Aside0.mk H
    clear H
    go_wp2
    go_loopg [3] kj1 (fun kq v3 w'=>∃ (x3_2:Int),v3 = .int .i64 x3_2∧Aside0 (spec_TrmOk.l0 kq l0 x3_2=some r)∧Aside0 (kq≤kj1)∧Aside0 (Below w.heap.size w w'))
    case atStart=>exact ⟨(0),qz9,H',⟨Nat.le_refl _⟩,⟨qz7⟩⟩
    case round=>
     clear H'
     try clear c1
     try clear p2
     try clear c3
     try clear c3b0
     try clear c3b1
     try clear c3b2
     try clear c4
     try clear p2
     obtain ⟨x3_2,rfl,HA,HK2,HB⟩:=hrel
     cases gk with
     | zero=>exact absurd HA.out (by simp [spec_TrmOk.l0])
     | succ k2=>
      have H:=HA.out
      clear HA
      simp only [spec_TrmOk.l0] at H
      by_cases c5:x3_2<(l0.length:Int)
      ·rw [if_pos c5] at H
       have c5b0:decide (x3_2<(l0.length:Int))=true:=decide_eq_true c5
       clear c5
       by_cases c6:0≤x3_2
       ·rw [if_pos c6] at H
        have c6b0:decide (0≤x3_2)=true:=decide_eq_true c6
        clear c6
        replace H:=Option.bind_eq_some_iff.mp H
        obtain ⟨t227,A70,H⟩:=H
        try dsimp only at H
        have A7:=Aside0.mk A70
        clear A70
        by_cases c8:t227=true
        ·subst c8
         have H1:(spec_TrmOk.l0 k2 l0 (wrap64 (x3_2+1)))=some r:=qz42
         clear H
         have H:=H1
         clear H1
         have H':=Aside0.mk H
         clear H
         have p226:0≤(x3_2:Int):=of_decide_eq_true qz6
         have q226:x3_2<(l0.length:Int):=of_decide_eq_true qz6
         obtain ⟨ad226,e226,hx226_0,hx226_1,hx226_2⟩:=at_T43 HR0.out x3_2 p226 q226
         cases e226
         replace hx226_0:=(HB.out.cell (World.block_lt_of_cell? w _ hx226_0)).trans hx226_0
         replace hx226_1:=(HB.out.cell (World.block_lt_of_cell? w _ hx226_1)).trans hx226_1
         replace hx226_2:=(HB.out.cell (World.block_lt_of_cell? w _ hx226_2)).trans hx226_2
         replace p226:=eq_true p226
         replace q226:=eq_true q226
         go_wp2_with (first|((with_reducible refine gate_callee (f:=28) rfl ?_);refine goesL_ (some 22) rfl rfl Tryz.func28 (by kernel_rfl) rfl #[.agg #[.int .i64 ((rd_T43 l0 x3_2).f0),.int .i64 ((rd_T43 l0 x3_2).f1),.string ((rd_T43 l0 x3_2).f2)]] rfl qz4 ?_;(with_reducible refine (spec_l1Cell.calls k2 ((rd_T43 l0 x3_2).f0) ((rd_T43 l0 x3_2).f1) ((rd_T43 l0 x3_2).f2) true _ A7.out).mono ?_);rintro e w9 ⟨rfl,hb⟩;refine ⟨_,rfl,?_⟩;have n0_:=Aside0.mk (below_step qz5 hb);clear HB;have HB:=n0_;clear n0_;(try clear hb);(try clear hb2);(try clear hk);(try clear hi)))
         go_roundg k2
         case measure=>have:=HJ1.out;have:=HK2.out;omega
         case rel=>exact ⟨(wrap64 (x3_2+1)),qz9,H',⟨by have:=HJ1.out;have:=HK2.out;omega⟩,⟨qz7⟩⟩
        ·replace c8:=Bool.eq_false_iff.mpr c8
         subst c8
         have H1:(some false)=some r:=qz26
         clear H
         have H:=H1
         clear H1
         obtain rfl:=Option.some.inj H
         have p226:0≤(x3_2:Int):=of_decide_eq_true qz6
         have q226:x3_2<(l0.length:Int):=of_decide_eq_true qz6
         obtain ⟨ad226,e226,hx226_0,hx226_1,hx226_2⟩:=at_T43 HR0.out x3_2 p226 q226
         cases e226
         replace hx226_0:=(HB.out.cell (World.block_lt_of_cell? w _ hx226_0)).trans hx226_0
         replace hx226_1:=(HB.out.cell (World.block_lt_of_cell? w _ hx226_1)).trans hx226_1
         replace hx226_2:=(HB.out.cell (World.block_lt_of_cell? w _ hx226_2)).trans hx226_2
         replace p226:=eq_true p226
         replace q226:=eq_true q226
         go_wp2_with (first|((with_reducible refine gate_callee (f:=28) rfl ?_);refine goesL_ (some 22) rfl rfl Tryz.func28 (by kernel_rfl) rfl #[.agg #[.int .i64 ((rd_T43 l0 x3_2).f0),.int .i64 ((rd_T43 l0 x3_2).f1),.string ((rd_T43 l0 x3_2).f2)]] rfl qz4 ?_;(with_reducible refine (spec_l1Cell.calls k2 ((rd_T43 l0 x3_2).f0) ((rd_T43 l0 x3_2).f1) ((rd_T43 l0 x3_2).f2) false _ A7.out).mono ?_);rintro e w10 ⟨rfl,hb⟩;refine ⟨_,rfl,?_⟩;have n0_:=Aside0.mk (below_step qz5 hb);clear HB;have HB:=n0_;clear n0_;(try clear hb);(try clear hb2);(try clear hk);(try clear hi)))
         go_ret
         exact ⟨qz8,qz7⟩
       ·rw [if_neg c6] at H
        exact absurd H (by simp)
      ·rw [if_neg c5] at H
       have c5b0:decide (x3_2<(l0.length:Int))=false:=decide_eq_false c5
       clear c5
       replace H:=Option.bind_eq_some_iff.mp H
       obtain ⟨t225,A110,H⟩:=H
       try dsimp only at H
       have A11:=Aside0.mk A110
       clear A110
       obtain rfl:=Option.some.inj H
       go_wp2_with (first|((with_reducible refine gate_callee (f:=29) rfl ?_);refine goesL_ (some 25) rfl rfl Tryz.func29 (by kernel_rfl) rfl #[.slice A0 l0.length c0,.int .i64 0] rfl qz4 ?_;(with_reducible refine (spec_l1End.calls k2 _ _ l0 0 t225 _ ?side1 ?side2 A11.out).mono ?_);(case side1=>exact qz71);(case side2=>exact HC0.out);rintro e w' ⟨rfl,⟨nd,rfl⟩⟩;refine ⟨_,rfl,?_⟩))
       go_ret
       exact ⟨qz8,qz7⟩

/-! ### spec_l1Plain: function 43 -/
def spec_l1Plain.l0:Nat→Int→ByteArray→Option (ByteArray)
 | 0,_,_=>none
 | k+1,x0,x3=>if x0 > 9 then ((some (([(wrap64 (48+(Int.tmod x0 10))) % 256]:List Int):List Int)).bind fun y228=>(if (strOfNums y228).size+x3.size≤9223372036854775807 then (spec_l1Plain.l0 k (wrap64 (Int.tdiv x0 10)) ((strOfNums y228)++x3)) else (none))) else ((some (([(wrap64 (48+x0)) % 256]:List Int):List Int)).bind fun y231=>(if (strOfNums y231).size+x3.size≤9223372036854775807 then (some ((strOfNums y231)++x3)) else (none)))
def spec_l1Plain.f (k:Nat) (a0:Int):Option (ByteArray):=spec_l1Plain.l0 k a0 (⟨#[]⟩:ByteArray)
set_option maxHeartbeats 8000000 in
set_option maxRecDepth 100000 in
theorem spec_l1Plain.calls (k:Nat) (a0:Int) (r:ByteArray) (w:World) (h:spec_l1Plain.f k a0=some r) :
  Calls Tryz.prog 43 #[.int .i64 a0] w fun e w'=>e = .returned (.string r)∧Below w.heap.size w w':=by
 have HB:=Aside0.mk (Below.refl w.heap.size w)
 have H:(spec_l1Plain.l0 k a0 (⟨#[]⟩:ByteArray))=some r:=h
 clear h
 have H':=Aside0.mk H
 clear H
 go_enter Tryz.func43,Tryz.ntmps43
 go_wp2
 go_loopg [0,3] k (fun kq v0 v3 w'=>∃ (x0_1:Int) (x3_1:ByteArray),v0 = .int .i64 x0_1∧v3 = .string x3_1∧Aside0 (spec_l1Plain.l0 kq x0_1 x3_1=some r)∧Aside0 (kq≤k)∧Aside0 (Below w.heap.size w w'))
 case atStart=>exact ⟨(a0),((⟨#[]⟩:ByteArray)),qz9,qz9,H',⟨Nat.le_refl _⟩,⟨qz7⟩⟩
 case round=>
  clear H'
  obtain ⟨x0_1,x3_1,rfl,rfl,HA,HK1,HB⟩:=hrel
  cases gk with
  | zero=>exact absurd HA.out (by simp [spec_l1Plain.l0])
  | succ k1=>
   have H:=HA.out
   clear HA
   simp only [spec_l1Plain.l0] at H
   by_cases c2:x0_1 > 9
   ·rw [if_pos c2] at H
    have c2b0:decide (9<x0_1)=true:=decide_eq_true c2
    clear c2
    obtain ⟨y228,hy228⟩:∃ y_:List Int,y_=(([(wrap64 (48+(Int.tmod x0_1 10))) % 256]:List Int)):=⟨_,rfl⟩
    replace H:(if (strOfNums y228).size+x3_1.size≤9223372036854775807 then (spec_l1Plain.l0 k1 (wrap64 (Int.tdiv x0_1 10)) ((strOfNums y228)++x3_1)) else (none))=some r:=by first|(rw [hy228];exact H)|exact H
    have Ny228:=Aside0.mk hy228
    clear hy228
    by_cases c3:(strOfNums y228).size+x3_1.size≤9223372036854775807
    ·rw [if_pos c3] at H
     have c3b0:=eq_true c3
     have c3b1:decide ((strOfNums y228).size+x3_1.size≤9223372036854775807)=true:=decide_eq_true c3
     try have c3b2:(9223372036854775807<(strOfNums y228).size+x3_1.size)=False:=eq_false (Nat.not_lt.2 c3)
     have H':=Aside0.mk H
     clear H
     go_wp2_with (first|((with_reducible refine gate_dst (N:=10) rfl ?_);refine Kd.R_lit (Kd.int .u8) _ 5 ?hg (N:=10) ?hd (xs:=([(wrap64 (48+(Int.tmod x0_1 10))) % 256]:List Int)) (inner:=[.int .u8 ((wrap64 (48+(Int.tmod x0_1 10))) % 256)]) (ok:=fun _=>True) (okp:=fun _=>True) ?hr ?hp (fun _ hk=>hk) trivial (Below.refl _ _) (Nat.le_refl _) (by simp) ?_;(case hd=>rfl);(case hg=>rfl);(case hr=>first|(go_simp;done)|(go_simp;rfl));(case hp=>exact (Reps.one (show Kd.M (Kd.int .u8) _ _ _ ((wrap64 (48+(Int.tmod x0_1 10))) % 256) [.int .u8 ((wrap64 (48+(Int.tmod x0_1 10))) % 256)] from rfl) (Reps.none _ _)));intro v229 w4 ho5 hb hg_ hnew_;clear hg_ hnew_;(first|rw [← Ny228.out] at ho5|(simp only [Int.reduceToNat] at ho5;rw [← Ny228.out] at ho5));have n0_:=Aside0.mk (Kd.R_lower ho5 (below_size qz5));have n1_:=Aside0.mk (below_step qz5 hb);clear HB;have HO230:=n0_;have HB:=n1_;clear n0_ n1_ hb ho5;have hcv6:=own_string (P:=Tryz.prog) Tryz.underlying22 Tryz.underlying5 Tryz.underlying9 (Kd.own_of_R HO230.out)))
     go_roundg k1
     case measure=>have:=HK1.out;omega
     case rel=>exact ⟨(wrap64 (Int.tdiv x0_1 10)),((strOfNums y228)++x3_1),qz9,qz9,H',⟨by have:=HK1.out;omega⟩,⟨qz7⟩⟩
    ·rw [if_neg c3] at H
     exact absurd H (by simp)
   ·rw [if_neg c2] at H
    have c2b0:decide (9<x0_1)=false:=decide_eq_false c2
    clear c2
    obtain ⟨y231,hy231⟩:∃ y_:List Int,y_=(([(wrap64 (48+x0_1)) % 256]:List Int)):=⟨_,rfl⟩
    replace H:(if (strOfNums y231).size+x3_1.size≤9223372036854775807 then (some ((strOfNums y231)++x3_1)) else (none))=some r:=by first|(rw [hy231];exact H)|exact H
    have Ny231:=Aside0.mk hy231
    clear hy231
    by_cases c7:(strOfNums y231).size+x3_1.size≤9223372036854775807
    ·rw [if_pos c7] at H
     have c7b0:=eq_true c7
     have c7b1:decide ((strOfNums y231).size+x3_1.size≤9223372036854775807)=true:=decide_eq_true c7
     try have c7b2:(9223372036854775807<(strOfNums y231).size+x3_1.size)=False:=eq_false (Nat.not_lt.2 c7)
     obtain rfl:=Option.some.inj H
     go_wp2_with (first|((with_reducible refine gate_dst (N:=19) rfl ?_);refine Kd.R_lit (Kd.int .u8) _ 5 ?hg (N:=19) ?hd (xs:=([(wrap64 (48+x0_1)) % 256]:List Int)) (inner:=[.int .u8 ((wrap64 (48+x0_1)) % 256)]) (ok:=fun _=>True) (okp:=fun _=>True) ?hr ?hp (fun _ hk=>hk) trivial (Below.refl _ _) (Nat.le_refl _) (by simp) ?_;(case hd=>rfl);(case hg=>rfl);(case hr=>first|(go_simp;done)|(go_simp;rfl));(case hp=>exact (Reps.one (show Kd.M (Kd.int .u8) _ _ _ ((wrap64 (48+x0_1)) % 256) [.int .u8 ((wrap64 (48+x0_1)) % 256)] from rfl) (Reps.none _ _)));intro v232 w8 ho9 hb hg_ hnew_;clear hg_ hnew_;(first|rw [← Ny231.out] at ho9|(simp only [Int.reduceToNat] at ho9;rw [← Ny231.out] at ho9));have n0_:=Aside0.mk (Kd.R_lower ho9 (below_size qz5));have n1_:=Aside0.mk (below_step qz5 hb);clear HB;have HO233:=n0_;have HB:=n1_;clear n0_ n1_ hb ho9;have hcv10:=own_string (P:=Tryz.prog) Tryz.underlying22 Tryz.underlying5 Tryz.underlying9 (Kd.own_of_R HO233.out)))
     go_ret
     exact ⟨qz8,qz7⟩
    ·rw [if_neg c7] at H
     exact absurd H (by simp)

/-! ### spec_l1Word: function 22 -/
def spec_l1Word.f (k:Nat) (a0_0:Int) (a0_1:Int) (a0_2:ByteArray):Option (ByteArray):=if a0_0=1 then ((spec_l1Plain.f k a0_1).bind fun t235=>(if 1+t235.size≤9223372036854775807 then (some ((⟨#[88]⟩:ByteArray)++t235)) else (none))) else (if a0_0=2 then (if a0_1<0 then ((spec_l1Plain.f k (wrap64 (-a0_1))).bind fun t236=>(if 1+t236.size≤9223372036854775807 then (some ((⟨#[45]⟩:ByteArray)++t236)) else (none))) else ((spec_l1Plain.f k a0_1).bind fun t237=>(some t237))) else (some a0_2))
set_option maxHeartbeats 8000000 in
set_option maxRecDepth 100000 in
theorem spec_l1Word.calls (k:Nat) (a0_0:Int) (a0_1:Int) (a0_2:ByteArray) (r:ByteArray) (w:World) (h:spec_l1Word.f k a0_0 a0_1 a0_2=some r) :
  Calls Tryz.prog 22 #[.agg #[.int .i64 a0_0,.int .i64 a0_1,.string a0_2]] w fun e w'=>e = .returned (.string r)∧Below w.heap.size w w':=by
 have hu43:=Tryz.underlying43
 have HB:=Aside0.mk (Below.refl w.heap.size w)
 have H:(if a0_0=1 then ((spec_l1Plain.f k a0_1).bind fun t235=>(if 1+t235.size≤9223372036854775807 then (some ((⟨#[88]⟩:ByteArray)++t235)) else (none))) else (if a0_0=2 then (if a0_1<0 then ((spec_l1Plain.f k (wrap64 (-a0_1))).bind fun t236=>(if 1+t236.size≤9223372036854775807 then (some ((⟨#[45]⟩:ByteArray)++t236)) else (none))) else ((spec_l1Plain.f k a0_1).bind fun t237=>(some t237))) else (some a0_2)))=some r:=h
 clear h
 by_cases c2:a0_0=1
 ·rw [if_pos c2] at H
  have c2b0:(a0_0 == 1)=true:=beq_iff_eq.mpr c2
  have c2b1:(a0_0 != 1)=false:=bne_eq_false_iff_eq.mpr c2
  clear c2
  replace H:=Option.bind_eq_some_iff.mp H
  obtain ⟨t235,A30,H⟩:=H
  try dsimp only at H
  have A3:=Aside0.mk A30
  clear A30
  by_cases c4:1+t235.size≤9223372036854775807
  ·rw [if_pos c4] at H
   have c4b0:=eq_true c4
   have c4b1:decide (1+t235.size≤9223372036854775807)=true:=decide_eq_true c4
   try have c4b2:(9223372036854775807<1+t235.size)=False:=eq_false (Nat.not_lt.2 c4)
   obtain rfl:=Option.some.inj H
   go_enter Tryz.func22,Tryz.ntmps22
   go_wp2_with (first|((with_reducible refine gate_dst (N:=1) rfl ?_);refine box_event ?hg (N:=1) ?hd (cs:=#[.int .i64 a0_0,.int .i64 a0_1,.string a0_2]) (t:=43) ?hr ?_;(case hd=>rfl);(case hg=>rfl);(case hr=>first|(go_simp;done)|(go_simp;rfl));intro gb234 hg w5 hbox hb;have n0_:=Aside0.mk (below_step qz5 hb);have n1_:=Aside0.mk (hbox);have n2_:=Aside0.mk ((by rw [hg];exact (below_size qz5):w.heap.size≤gb234));have n3_:=Aside0.mk ((by rw [hg];exact (below_size qz5):w.heap.size≤gb234));clear HB;have HB:=n0_;have BK234:=n1_;have GW234:=n2_;have GE234:=n3_;clear n0_ n1_ n2_ n3_ hb hbox hg;have hcz6_0:w5.cell? ⟨gb234,0,none⟩=some (.int .i64 a0_0):=(blk_cell BK234.out 0).trans rfl;have hcz6_1:w5.cell? ⟨gb234,1,none⟩=some (.int .i64 a0_1):=(blk_cell BK234.out 1).trans rfl;have hcz6_2:w5.cell? ⟨gb234,2,none⟩=some (.string a0_2):=(blk_cell BK234.out 2).trans rfl;have hfz6_0:=blk_frozen BK234.out 0;have hfz6_1:=blk_frozen BK234.out 1;have hfz6_2:=blk_frozen BK234.out 2)|((with_reducible refine gate_callee (f:=43) rfl ?_);refine goesL_ (some 9) rfl rfl Tryz.func43 (by kernel_rfl) rfl #[.int .i64 a0_1] rfl qz4 ?_;(with_reducible refine (spec_l1Plain.calls k a0_1 t235 _ A3.out).mono ?_);rintro e w7 ⟨rfl,hb⟩;refine ⟨_,rfl,?_⟩;have n0_:=Aside0.mk (blk_below (g:=gb234) (o:=.cells #[.int .i64 a0_0,.int .i64 a0_1,.string a0_2] 43 (0,0)) qz67 hb);have n1_:=Aside0.mk (below_step qz37 hb);clear BK234 HB;have BK234:=n0_;have HB:=n1_;clear n0_ n1_;(try clear hb);(try clear hb2);(try clear hk);(try clear hi)))
   go_ret
   exact ⟨qz8,qz37⟩
  ·rw [if_neg c4] at H
   exact absurd H (by simp)
 ·rw [if_neg c2] at H
  have c2b0:(a0_0 == 1)=false:=beq_eq_false_iff_ne.mpr c2
  have c2b1:(a0_0 != 1)=true:=bne_iff_ne.mpr c2
  by_cases c8:a0_0=2
  ·rw [if_pos c8] at H
   have c8b0:(a0_0 == 2)=true:=beq_iff_eq.mpr c8
   have c8b1:(a0_0 != 2)=false:=bne_eq_false_iff_eq.mpr c8
   clear c8
   by_cases c9:a0_1<0
   ·rw [if_pos c9] at H
    have c9b0:decide (a0_1<0)=true:=decide_eq_true c9
    clear c9
    replace H:=Option.bind_eq_some_iff.mp H
    obtain ⟨t236,A100,H⟩:=H
    try dsimp only at H
    have A10:=Aside0.mk A100
    clear A100
    by_cases c11:1+t236.size≤9223372036854775807
    ·rw [if_pos c11] at H
     have c11b0:=eq_true c11
     have c11b1:decide (1+t236.size≤9223372036854775807)=true:=decide_eq_true c11
     try have c11b2:(9223372036854775807<1+t236.size)=False:=eq_false (Nat.not_lt.2 c11)
     obtain rfl:=Option.some.inj H
     go_enter Tryz.func22,Tryz.ntmps22
     go_wp2_with (first|((with_reducible refine gate_dst (N:=1) rfl ?_);refine box_event ?hg (N:=1) ?hd (cs:=#[.int .i64 a0_0,.int .i64 a0_1,.string a0_2]) (t:=43) ?hr ?_;(case hd=>rfl);(case hg=>rfl);(case hr=>first|(go_simp;done)|(go_simp;rfl));intro gb234 hg w12 hbox hb;have n0_:=Aside0.mk (below_step qz5 hb);have n1_:=Aside0.mk (hbox);have n2_:=Aside0.mk ((by rw [hg];exact (below_size qz5):w.heap.size≤gb234));have n3_:=Aside0.mk ((by rw [hg];exact (below_size qz5):w.heap.size≤gb234));clear HB;have HB:=n0_;have BK234:=n1_;have GW234:=n2_;have GE234:=n3_;clear n0_ n1_ n2_ n3_ hb hbox hg;have hcz13_0:w12.cell? ⟨gb234,0,none⟩=some (.int .i64 a0_0):=(blk_cell BK234.out 0).trans rfl;have hcz13_1:w12.cell? ⟨gb234,1,none⟩=some (.int .i64 a0_1):=(blk_cell BK234.out 1).trans rfl;have hcz13_2:w12.cell? ⟨gb234,2,none⟩=some (.string a0_2):=(blk_cell BK234.out 2).trans rfl;have hfz13_0:=blk_frozen BK234.out 0;have hfz13_1:=blk_frozen BK234.out 1;have hfz13_2:=blk_frozen BK234.out 2)|((with_reducible refine gate_callee (f:=43) rfl ?_);refine goesL_ (some 19) rfl rfl Tryz.func43 (by kernel_rfl) rfl #[.int .i64 (wrap64 (-a0_1))] rfl qz4 ?_;(with_reducible refine (spec_l1Plain.calls k (wrap64 (-a0_1)) t236 _ A10.out).mono ?_);rintro e w14 ⟨rfl,hb⟩;refine ⟨_,rfl,?_⟩;have n0_:=Aside0.mk (blk_below (g:=gb234) (o:=.cells #[.int .i64 a0_0,.int .i64 a0_1,.string a0_2] 43 (0,0)) qz67 hb);have n1_:=Aside0.mk (below_step qz37 hb);clear BK234 HB;have BK234:=n0_;have HB:=n1_;clear n0_ n1_;(try clear hb);(try clear hb2);(try clear hk);(try clear hi)))
     go_ret
     exact ⟨qz8,qz37⟩
    ·rw [if_neg c11] at H
     exact absurd H (by simp)
   ·rw [if_neg c9] at H
    have c9b0:decide (a0_1<0)=false:=decide_eq_false c9
    clear c9
    replace H:=Option.bind_eq_some_iff.mp H
    obtain ⟨t237,A150,H⟩:=H
    try dsimp only at H
    have A15:=Aside0.mk A150
    clear A150
    obtain rfl:=Option.some.inj H
    go_enter Tryz.func22,Tryz.ntmps22
    go_wp2_with (first|((with_reducible refine gate_dst (N:=1) rfl ?_);refine box_event ?hg (N:=1) ?hd (cs:=#[.int .i64 a0_0,.int .i64 a0_1,.string a0_2]) (t:=43) ?hr ?_;(case hd=>rfl);(case hg=>rfl);(case hr=>first|(go_simp;done)|(go_simp;rfl));intro gb234 hg w16 hbox hb;have n0_:=Aside0.mk (below_step qz5 hb);have n1_:=Aside0.mk (hbox);have n2_:=Aside0.mk ((by rw [hg];exact (below_size qz5):w.heap.size≤gb234));have n3_:=Aside0.mk ((by rw [hg];exact (below_size qz5):w.heap.size≤gb234));clear HB;have HB:=n0_;have BK234:=n1_;have GW234:=n2_;have GE234:=n3_;clear n0_ n1_ n2_ n3_ hb hbox hg;have hcz17_0:w16.cell? ⟨gb234,0,none⟩=some (.int .i64 a0_0):=(blk_cell BK234.out 0).trans rfl;have hcz17_1:w16.cell? ⟨gb234,1,none⟩=some (.int .i64 a0_1):=(blk_cell BK234.out 1).trans rfl;have hcz17_2:w16.cell? ⟨gb234,2,none⟩=some (.string a0_2):=(blk_cell BK234.out 2).trans rfl;have hfz17_0:=blk_frozen BK234.out 0;have hfz17_1:=blk_frozen BK234.out 1;have hfz17_2:=blk_frozen BK234.out 2)|((with_reducible refine gate_callee (f:=43) rfl ?_);refine goesL_ (some 23) rfl rfl Tryz.func43 (by kernel_rfl) rfl #[.int .i64 a0_1] rfl qz4 ?_;(with_reducible refine (spec_l1Plain.calls k a0_1 t237 _ A15.out).mono ?_);rintro e w18 ⟨rfl,hb⟩;refine ⟨_,rfl,?_⟩;have n0_:=Aside0.mk (blk_below (g:=gb234) (o:=.cells #[.int .i64 a0_0,.int .i64 a0_1,.string a0_2] 43 (0,0)) qz67 hb);have n1_:=Aside0.mk (below_step qz37 hb);clear BK234 HB;have BK234:=n0_;have HB:=n1_;clear n0_ n1_;(try clear hb);(try clear hb2);(try clear hk);(try clear hi)))
    go_ret
    exact ⟨qz8,qz37⟩
  ·rw [if_neg c8] at H
   have c8b0:(a0_0 == 2)=false:=beq_eq_false_iff_ne.mpr c8
   have c8b1:(a0_0 != 2)=true:=bne_iff_ne.mpr c8
   obtain rfl:=Option.some.inj H
   go_enter Tryz.func22,Tryz.ntmps22
   go_wp2_with (first|((with_reducible refine gate_dst (N:=1) rfl ?_);refine box_event ?hg (N:=1) ?hd (cs:=#[.int .i64 a0_0,.int .i64 a0_1,.string a0_2]) (t:=43) ?hr ?_;(case hd=>rfl);(case hg=>rfl);(case hr=>first|(go_simp;done)|(go_simp;rfl));intro gb234 hg w19 hbox hb;have n0_:=Aside0.mk (below_step qz5 hb);have n1_:=Aside0.mk (hbox);have n2_:=Aside0.mk ((by rw [hg];exact (below_size qz5):w.heap.size≤gb234));have n3_:=Aside0.mk ((by rw [hg];exact (below_size qz5):w.heap.size≤gb234));clear HB;have HB:=n0_;have BK234:=n1_;have GW234:=n2_;have GE234:=n3_;clear n0_ n1_ n2_ n3_ hb hbox hg;have hcz20_0:w19.cell? ⟨gb234,0,none⟩=some (.int .i64 a0_0):=(blk_cell BK234.out 0).trans rfl;have hcz20_1:w19.cell? ⟨gb234,1,none⟩=some (.int .i64 a0_1):=(blk_cell BK234.out 1).trans rfl;have hcz20_2:w19.cell? ⟨gb234,2,none⟩=some (.string a0_2):=(blk_cell BK234.out 2).trans rfl;have hfz20_0:=blk_frozen BK234.out 0;have hfz20_1:=blk_frozen BK234.out 1;have hfz20_2:=blk_frozen BK234.out 2))
   go_ret
   exact ⟨qz8,qz37⟩

end Go.Proofs.YtibencknfheplaaGreatDoor.P
