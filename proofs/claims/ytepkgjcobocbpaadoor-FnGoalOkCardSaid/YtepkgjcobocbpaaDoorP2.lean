/- Contracts of functions of the program: each as a Lean function, and that its call does what that says; printed by cprint.py (this session) over print.py of the kit. Conditions: the hypotheses of each theorem. -/
import Derived.Test.YtepkgjcobocbpaaDoorVZ
import Derived.Test.YtepkgjcobocbpaaDoorP0
import Derived.Test.YtepkgjcobocbpaaDoorP1
namespace Go.Proofs.YtepkgjcobocbpaaDoor.P
open Go.RowKit Go.Proofs.YtepkgjcobocbpaaDoorW.PrintWords Go.Proofs.YtepkgjcobocbpaaDoorW.PrintLast Go.Proofs.YtepkgjcobocbpaaDoorW.PrintMore
attribute [local go_sem] max2_int min2_int max_two min_two max_three min_three max_four min_four   -- for this text's walks alone
set_option linter.unusedVariables false
set_option linter.unusedSimpArgs false

/-! ### spec_TrmOk: function 30 -/
mutual
def spec_TrmOk.j0:Nat→List (S47)→Bool→Option (Bool)
 | 0,_,_=>none
 | k+1,x0,x11=>if x11=true then (some false) else (spec_TrmOk.l0 k x0 0)
def spec_TrmOk.l0:Nat→List (S47)→Int→Option (Bool)
 | 0,_,_=>none
 | k+1,x0,x3=>if x3<(x0.length:Int) then (if 0≤x3 then ((spec_l1Cell.f k ((rd_T47 x0 x3).f0) ((rd_T47 x0 x3).f1) ((rd_T47 x0 x3).f2)).bind fun t113=>(if t113=true then (spec_TrmOk.l0 k x0 (wrap64 (x3+1))) else (some false))) else (none)) else ((spec_l1End.f k x0 0).bind fun t111=>(some (t111 == (x0.length:Int))))
end
def spec_TrmOk.f (k:Nat) (l0:List (S47)):Option (Bool):=if (l0.length:Int)=0 then (spec_TrmOk.j0 k l0 true) else (spec_TrmOk.j0 k l0 (decide ((l0.length:Int) > 40)))
set_option maxHeartbeats 8000000 in
set_option maxRecDepth 100000 in
theorem spec_TrmOk.calls (k:Nat) (A0:Option Addr) (c0:Nat) (l0:List (S47)) (r:Bool) (w:World) (hr0:Kd.C k47 w A0 l0.length l0) (hc0:l0.length≤c0) (h:spec_TrmOk.f k l0=some r) :
  Calls Tryd.prog 30 #[.slice A0 l0.length c0] w fun e w'=>e = .returned (.bool r)∧Below w.heap.size w w':=by
 have hu47:=Tryd.underlying47
 have HR0:=Aside0.mk hr0
 have HC0:=Aside0.mk hc0
 clear hr0 hc0
 have HB:=Aside0.mk (Below.refl w.heap.size w)
 have H:(if (l0.length:Int)=0 then (spec_TrmOk.j0 k l0 true) else (spec_TrmOk.j0 k l0 (decide ((l0.length:Int) > 40))))=some r:=h
 clear h
 have HC2:=Aside0.mk H
 clear H
 go_enter Tryd.func30,Tryd.ntmps30
 go_upto_region 1 with (fail)
 go_cut [11] (fun v11 wc=>∃ (kq:Nat) (x11_1:Bool),v11 = .bool x11_1∧Aside0 (spec_TrmOk.j0 kq l0 x11_1=some r)∧Aside0 (kq≤k)∧Aside0 (Below w.heap.size w wc))
 case first=>
  have H:=HC2.out
  clear HC2
  by_cases c3:(l0.length:Int)=0
  ·rw [if_pos c3] at H
   have c3b0:((l0.length:Int) == 0)=true:=beq_iff_eq.mpr c3
   have c3b1:((l0.length:Int) != 0)=false:=bne_eq_false_iff_eq.mpr c3
   clear c3
   (first|rw [c3b0]|(simp only [i64_w,i32_w];rw [c3b0])|skip)
   have H':=Aside0.mk H
   clear H
   go_wp2
   go_meet
   case rel=>exact ⟨_,(true),qz27,H',⟨qz98⟩,⟨qz12⟩⟩
  ·rw [if_neg c3] at H
   have c3b0:((l0.length:Int) == 0)=false:=beq_eq_false_iff_ne.mpr c3
   have c3b1:((l0.length:Int) != 0)=true:=bne_iff_ne.mpr c3
   have c3b2:¬ (l0=[]):=fun h_=>c3 (by rw [h_];rfl)
   (first|rw [c3b0]|(simp only [i64_w,i32_w];rw [c3b0])|skip)
   have H':=Aside0.mk H
   clear H
   go_wp2
   go_meet
   case rel=>exact ⟨_,(decide ((l0.length:Int) > 40)),qz27,H',⟨qz98⟩,⟨qz12⟩⟩
 case rest=>
  clear HC2
  try clear p2
  try clear c3
  try clear c3b0
  try clear c3b1
  try clear c3b2
  obtain ⟨kq,x11_1,rfl,HA,HJ1,HB⟩:=hcut
  cases kq with
  | zero=>exact absurd HA.out (by simp [spec_TrmOk.j0])
  | succ kj1=>
   have H:=HA.out
   clear HA
   simp only [spec_TrmOk.j0] at H
   by_cases c4:x11_1=true
   ·subst c4
    have H1:(some false)=some r:=qz55
    clear H
    have H:=H1
    clear H1
    obtain rfl:=Option.some.inj H
    go_wp2
    go_ret
    exact ⟨qz9,qz12⟩
   ·replace c4:=Bool.eq_false_iff.mpr c4
    subst c4
    have H1:(spec_TrmOk.l0 kj1 l0 0)=some r:=qz35
    clear H
    have H:=H1
    clear H1
    have H':=Aside0.mk H
    clear H
    go_wp2
    go_loopg [3] kj1 (fun kq v3 w'=>∃ (x3_2:Int),v3 = .int .i64 x3_2∧Aside0 (spec_TrmOk.l0 kq l0 x3_2=some r)∧Aside0 (kq≤kj1)∧Aside0 (Below w.heap.size w w'))
    case atStart=>exact ⟨(0),qz27,H',⟨Nat.le_refl _⟩,⟨qz12⟩⟩
    case round=>
     clear H'
     try clear p2
     try clear c3
     try clear c3b0
     try clear c3b1
     try clear c3b2
     try clear c4
     try clear p2
     obtain ⟨x3_2,rfl,HA,HK2,HB⟩:=hrel
     cases gk with
     | zero=>exact absurd HA.out (by simp [spec_TrmOk.l0])
     | succ k2=>
      have H:=HA.out
      clear HA
      simp only [spec_TrmOk.l0] at H
      by_cases c5:x3_2<(l0.length:Int)
      ·rw [if_pos c5] at H
       have c5b0:decide (x3_2<(l0.length:Int))=true:=decide_eq_true c5
       clear c5
       by_cases c6:0≤x3_2
       ·rw [if_pos c6] at H
        have c6b0:decide (0≤x3_2)=true:=decide_eq_true c6
        clear c6
        replace H:=Option.bind_eq_some_iff.mp H
        obtain ⟨t113,A70,H⟩:=H
        try dsimp only at H
        have A7:=Aside0.mk A70
        clear A70
        by_cases c8:t113=true
        ·subst c8
         have H1:(spec_TrmOk.l0 k2 l0 (wrap64 (x3_2+1)))=some r:=qz55
         clear H
         have H:=H1
         clear H1
         have H':=Aside0.mk H
         clear H
         have p112:0≤(x3_2:Int):=of_decide_eq_true qz10
         have q112:x3_2<(l0.length:Int):=of_decide_eq_true qz10
         obtain ⟨ad112,e112,hx112_0,hx112_1,hx112_2⟩:=at_T47 HR0.out x3_2 p112 q112
         cases e112
         replace hx112_0:=(HB.out.cell (World.block_lt_of_cell? w _ hx112_0)).trans hx112_0
         replace hx112_1:=(HB.out.cell (World.block_lt_of_cell? w _ hx112_1)).trans hx112_1
         replace hx112_2:=(HB.out.cell (World.block_lt_of_cell? w _ hx112_2)).trans hx112_2
         replace p112:=eq_true p112
         replace q112:=eq_true q112
         go_wp2_with (first|((with_reducible refine gate_callee (f:=53) rfl ?_);refine goesL_ (some 22) rfl rfl Tryd.func53 (by kernel_rfl) rfl #[.agg #[.int .i64 ((rd_T47 l0 x3_2).f0),.int .i64 ((rd_T47 l0 x3_2).f1),.string ((rd_T47 l0 x3_2).f2)]] rfl qz4 ?_;(with_reducible refine (spec_l1Cell.calls k2 ((rd_T47 l0 x3_2).f0) ((rd_T47 l0 x3_2).f1) ((rd_T47 l0 x3_2).f2) true _ A7.out).mono ?_);rintro e w9 ⟨rfl,hb⟩;refine ⟨_,rfl,?_⟩;have n0_:=Aside0.mk (below_step qz6 hb);clear HB;have HB:=n0_;clear n0_;(try clear hb);(try clear hb2);(try clear hk);(try clear hi)))
         go_roundg k2
         case measure=>have:=HJ1.out;have:=HK2.out;omega
         case rel=>exact ⟨(wrap64 (x3_2+1)),qz27,H',⟨qz126⟩,⟨qz12⟩⟩
        ·replace c8:=Bool.eq_false_iff.mpr c8
         subst c8
         have H1:(some false)=some r:=qz35
         clear H
         have H:=H1
         clear H1
         obtain rfl:=Option.some.inj H
         have p112:0≤(x3_2:Int):=of_decide_eq_true qz10
         have q112:x3_2<(l0.length:Int):=of_decide_eq_true qz10
         obtain ⟨ad112,e112,hx112_0,hx112_1,hx112_2⟩:=at_T47 HR0.out x3_2 p112 q112
         cases e112
         replace hx112_0:=(HB.out.cell (World.block_lt_of_cell? w _ hx112_0)).trans hx112_0
         replace hx112_1:=(HB.out.cell (World.block_lt_of_cell? w _ hx112_1)).trans hx112_1
         replace hx112_2:=(HB.out.cell (World.block_lt_of_cell? w _ hx112_2)).trans hx112_2
         replace p112:=eq_true p112
         replace q112:=eq_true q112
         go_wp2_with (first|((with_reducible refine gate_callee (f:=53) rfl ?_);refine goesL_ (some 22) rfl rfl Tryd.func53 (by kernel_rfl) rfl #[.agg #[.int .i64 ((rd_T47 l0 x3_2).f0),.int .i64 ((rd_T47 l0 x3_2).f1),.string ((rd_T47 l0 x3_2).f2)]] rfl qz4 ?_;(with_reducible refine (spec_l1Cell.calls k2 ((rd_T47 l0 x3_2).f0) ((rd_T47 l0 x3_2).f1) ((rd_T47 l0 x3_2).f2) false _ A7.out).mono ?_);rintro e w10 ⟨rfl,hb⟩;refine ⟨_,rfl,?_⟩;have n0_:=Aside0.mk (below_step qz6 hb);clear HB;have HB:=n0_;clear n0_;(try clear hb);(try clear hb2);(try clear hk);(try clear hi)))
         go_ret
         exact ⟨qz9,qz12⟩
       ·rw [if_neg c6] at H
        exact absurd H (by simp)
      ·rw [if_neg c5] at H
       have c5b0:decide (x3_2<(l0.length:Int))=false:=decide_eq_false c5
       clear c5
       replace H:=Option.bind_eq_some_iff.mp H
       obtain ⟨t111,A110,H⟩:=H
       try dsimp only at H
       have A11:=Aside0.mk A110
       clear A110
       obtain rfl:=Option.some.inj H
       go_wp2_with (first|((with_reducible refine gate_callee (f:=54) rfl ?_);refine goesL_ (some 25) rfl rfl Tryd.func54 (by kernel_rfl) rfl #[.slice A0 l0.length c0,.int .i64 0] rfl qz4 ?_;(with_reducible refine (spec_l1End.calls k2 _ _ l0 0 t111 _ ?side1 ?side2 A11.out).mono ?_);(case side1=>exact qz101);(case side2=>exact HC0.out);rintro e w' ⟨rfl,⟨nd,rfl⟩⟩;refine ⟨_,rfl,?_⟩))
       go_ret
       exact ⟨qz9,qz12⟩

/-! ### spec_TrmMake: function 19 -/
def spec_TrmMake.l0:Nat→List (List (S47))→List (S47)→Int→Option ((List (S47)))
 | 0,_,_,_=>none
 | k+1,x1,x5,x6=>if x6<(x1.length:Int) then (if 0≤x6 then ((spec_TrmOk.f k (rd_L4 x1 x6)).bind fun t118=>(if t118=true then (if x5.length+(rd_L4 x1 x6).length<4398046511104 then (spec_TrmMake.l0 k x1 (x5++(rd_L4 x1 x6)) (wrap64 (x6+1))) else (none)) else (some (([]:List (S47)))))) else (none)) else ((spec_TrmOk.f k x5).bind fun t126=>(if t126=true then (some x5) else (some (([]:List (S47))))))
def spec_TrmMake.f (k:Nat) (a0:ByteArray) (l1:List (List (S47))):Option ((List (S47))):=spec_TrmMake.l0 k l1 (([(⟨3,(l1.length:Int),a0⟩:S47)]:List (S47))) 0
set_option maxHeartbeats 8000000 in
set_option maxRecDepth 100000 in
theorem spec_TrmMake.calls (k:Nat) (a0:ByteArray) (A1:Option Addr) (c1:Nat) (l1:List (List (S47))) (r:List (S47)) (w:World) (hr1:Kd.C (Kd.slice 47 k47) w A1 l1.length l1) (hc1:l1.length≤c1) (h:spec_TrmMake.f k a0 l1=some r) :
  Calls Tryd.prog 19 #[.string a0,.slice A1 l1.length c1] w fun e w'=>∃ v0_:Value,e = .returned (v0_)∧Kd.R k47 47 w' w.heap.size (fun _=>True) v0_ r∧Below w.heap.size w w':=by
 have hu47:=Tryd.underlying47
 have HR1:=Aside0.mk hr1
 have HC1:=Aside0.mk hc1
 clear hr1 hc1
 have HB:=Aside0.mk (Below.refl w.heap.size w)
 have H:(spec_TrmMake.l0 k l1 (([(⟨3,(l1.length:Int),a0⟩:S47)]:List (S47))) 0)=some r:=h
 clear h
 obtain ⟨y114,hy114⟩:∃ y_:List (S47),y_=(([(⟨3,(l1.length:Int),a0⟩:S47)]:List (S47))):=⟨_,rfl⟩
 replace H:(spec_TrmMake.l0 k l1 y114 0)=some r:=by first|(rw [hy114];exact H)|exact H
 have Ny114:=Aside0.mk hy114
 clear hy114
 have H':=Aside0.mk H
 clear H
 go_enter Tryd.func19,Tryd.ntmps19
 go_wp2_with (first|((with_reducible refine gate_dst (N:=11) rfl ?_);refine Kd.R_lit k47 _ 47 ?hg (N:=11) ?hd (xs:=([(⟨3,(l1.length:Int),a0⟩:S47)]:List (S47))) (inner:=[.int .i64 3,.int .i64 (l1.length:Int),.string a0]) (ok:=fun _=>True) (okp:=fun _=>True) ?hr ?hp (fun _ hk=>hk) trivial (Below.refl _ _) (Nat.le_refl _) (by simp) ?_;(case hd=>rfl);(case hg=>rfl);(case hr=>first|(go_simp;done)|(go_simp;rfl));(case hp=>exact (Reps.c3 (show Kd.M k47 _ _ _ (⟨3,(l1.length:Int),a0⟩:S47) [.int .i64 3,.int .i64 (l1.length:Int),.string a0] from (k47_mkM _ _ _ (⟨3,(l1.length:Int),a0⟩:S47) )) (Reps.none _ _)));intro v115 w3 ho4 hb hg_ hnew_;clear hg_ hnew_;(first|rw [← Ny114.out] at ho4|(simp only [Int.reduceToNat] at ho4;rw [← Ny114.out] at ho4));have n0_:=Aside0.mk (Kd.R_lower ho4 (below_size qz6));have n1_:=Aside0.mk (below_step qz6 hb);clear HB;have HO116:=n0_;have HB:=n1_;clear n0_ n1_ hb ho4))
 go_loopg [5,6] k (fun kq v5 v6 w'=>∃ (x5_1:List (S47)) (x6_1:Int),v6 = .int .i64 x6_1∧Aside0 (spec_TrmMake.l0 kq l1 x5_1 x6_1=some r)∧Aside0 (kq≤k)∧Aside0 (Kd.R k47 47 w' w.heap.size (fun _=>True) v5 x5_1)∧Aside0 (Below w.heap.size w w'))
 case atStart=>exact ⟨(y114),(0),qz27,H',⟨Nat.le_refl _⟩,⟨by (with_reducible repeat (first|apply Kd.R_alloc|apply Kd.R_drewN|apply Kd.R_drew));exact HO116.out⟩,⟨qz12⟩⟩
 case round=>
  clear H'
  try clear c1
  try clear p2
  try clear c3
  obtain ⟨x5_1,x6_1,rfl,HA,HK1,HO_5,HB⟩:=hrel
  cases gk with
  | zero=>exact absurd HA.out (by simp [spec_TrmMake.l0])
  | succ k1=>
   have H:=HA.out
   clear HA
   simp only [spec_TrmMake.l0] at H
   by_cases c5:x6_1<(l1.length:Int)
   ·rw [if_pos c5] at H
    have c5b0:decide (x6_1<(l1.length:Int))=true:=decide_eq_true c5
    clear c5
    by_cases c6:0≤x6_1
    ·rw [if_pos c6] at H
     have c6b0:decide (0≤x6_1)=true:=decide_eq_true c6
     clear c6
     replace H:=Option.bind_eq_some_iff.mp H
     obtain ⟨t118,A70,H⟩:=H
     try dsimp only at H
     have A7:=Aside0.mk A70
     clear A70
     by_cases c8:t118=true
     ·subst c8
      have H1:(if x5_1.length+(rd_L4 l1 x6_1).length<4398046511104 then (spec_TrmMake.l0 k1 l1 (x5_1++(rd_L4 l1 x6_1)) (wrap64 (x6_1+1))) else (none))=some r:=qz55
      clear H
      have H:=H1
      clear H1
      by_cases c9:x5_1.length+(rd_L4 l1 x6_1).length<4398046511104
      ·rw [if_pos c9] at H
       have LMc9:=Aside0.mk c9
       clear c9
       obtain ⟨y120,hy120⟩:∃ y_:List (S47),y_=(x5_1++(rd_L4 l1 x6_1)):=⟨_,rfl⟩
       replace H:(spec_TrmMake.l0 k1 l1 y120 (wrap64 (x6_1+1)))=some r:=by first|(rw [hy120];exact H)|exact H
       have Ny120:=Aside0.mk hy120
       clear hy120
       have H':=Aside0.mk H
       clear H
       have p117:0≤(x6_1:Int):=of_decide_eq_true qz10
       have q117:x6_1<(l1.length:Int):=of_decide_eq_true qz10
       obtain ⟨ad117,A117_0,c117_0,e117,hx117_0,hl117_0,hi117_0⟩:=at_L4 HR1.out x6_1 p117 q117
       cases e117
       replace hx117_0:=(HB.out.cell (World.block_lt_of_cell? w _ hx117_0)).trans hx117_0
       have HR117_0:=Aside0.mk hi117_0
       have HC117_0:=Aside0.mk hl117_0
       clear hi117_0 hl117_0
       replace p117:=eq_true p117
       replace q117:=eq_true q117
       go_wp2_with (first|((with_reducible refine gate_callee (f:=30) rfl ?_);refine goesL_ (some 22) rfl rfl Tryd.func30 (by kernel_rfl) rfl #[.slice A117_0 (rd_L4 l1 x6_1).length c117_0] rfl qz4 ?_;(with_reducible refine (spec_TrmOk.calls k1 _ _ (rd_L4 l1 x6_1) true _ ?side1 ?side2 A7.out).mono ?_);(case side1=>exact qz118);(case side2=>exact HC117_0.out);rintro e w10 ⟨rfl,hb⟩;refine ⟨_,rfl,?_⟩;have n0_:=Aside0.mk (Kd.R_below qz46 hb);have n1_:=Aside0.mk (below_step qz6 hb);clear HO_5 HB;have HO_5:=n0_;have HB:=n1_;clear n0_ n1_;(try clear hb);(try clear hb2);(try clear hk);(try clear hi);have p119:0≤(x6_1:Int):=of_decide_eq_true qz10;have q119:x6_1<(l1.length:Int):=of_decide_eq_true qz10;obtain ⟨ad119,A119_0,c119_0,e119,hx119_0,hl119_0,hi119_0⟩:=at_L4 HR1.out x6_1 p119 q119;obtain rfl:ad117=ad119:=(by injection e119);replace hx119_0:=(HB.out.cell (World.block_lt_of_cell? w _ hx119_0)).trans hx119_0;have HR119_0:=Aside0.mk hi119_0;have HC119_0:=Aside0.mk hl119_0;clear hi119_0 hl119_0;replace p119:=eq_true p119;replace q119:=eq_true q119)|((with_reducible refine gate_builtin (b:=.append) (xs:=#[.tmp 25,.tmp 29]) rfl ?_);at_builtin;refine Kd.R_append_rows k47 (w0:=w) w.heap.size rfl (.tmp 25) (.tmp 29) 35 47 (.agg #[(.int .i64 0),(.int .i64 0),(.string ⟨#[]⟩)]) 32 rfl Tryd.underlying35 info47 rfl (by decide) (by omega) u5 x5_1 (rd_L4 l1 x6_1) _ _ _ (fun _=>True) (fun _=>False) rfl rfl ?aO ?aR (fun _ _ h=>h) (fun _ h=>h.elim) ?aF ?aB ?aS ?aL ?_;(case aR=>repeat (first|exact (Kd.C_below HR119_0.out HB.out)|(with_reducible refine Kd.C_alloc ?_ _)|(with_reducible refine Kd.C_drewN ?_ _)|(with_reducible refine Kd.C_drew ?_)));(case aB=>exact qz6);(case aF=>exact (fun _ _=>trivial));(case aO=>exact qz46);(case aS=>exact (below_size qz6));(case aL=>have:=LMc9.out;omega);intro v121 w11 ho hb hg hat;rw [← Ny120.out] at ho;have n0_:=Aside0.mk (hb);have n1_:=Aside0.mk (ho);clear HB HO_5;have HB:=n0_;have HO122:=n1_;clear n0_ n1_ ho hb hg hat))
       go_roundg k1
       case measure=>have:=HK1.out;omega
       case rel=>exact ⟨(y120),(wrap64 (x6_1+1)),qz27,H',⟨by have:=HK1.out;omega⟩,⟨by (with_reducible repeat (first|apply Kd.R_alloc|apply Kd.R_drewN|apply Kd.R_drew));exact HO122.out⟩,⟨qz12⟩⟩
      ·rw [if_neg c9] at H
       exact absurd H (by simp)
     ·replace c8:=Bool.eq_false_iff.mpr c8
      subst c8
      have H1:(some (([]:List (S47))))=some r:=qz35
      clear H
      have H:=H1
      clear H1
      obtain ⟨y123,hy123⟩:∃ y_:List (S47),y_=(([]:List (S47))):=⟨_,rfl⟩
      replace H:(some y123)=some r:=by first|(rw [hy123];exact H)|exact H
      have Ny123:=Aside0.mk hy123
      clear hy123
      obtain rfl:=Option.some.inj H
      have p117:0≤(x6_1:Int):=of_decide_eq_true qz10
      have q117:x6_1<(l1.length:Int):=of_decide_eq_true qz10
      obtain ⟨ad117,A117_0,c117_0,e117,hx117_0,hl117_0,hi117_0⟩:=at_L4 HR1.out x6_1 p117 q117
      cases e117
      replace hx117_0:=(HB.out.cell (World.block_lt_of_cell? w _ hx117_0)).trans hx117_0
      have HR117_0:=Aside0.mk hi117_0
      have HC117_0:=Aside0.mk hl117_0
      clear hi117_0 hl117_0
      replace p117:=eq_true p117
      replace q117:=eq_true q117
      go_wp2_with (first|((with_reducible refine gate_callee (f:=30) rfl ?_);refine goesL_ (some 22) rfl rfl Tryd.func30 (by kernel_rfl) rfl #[.slice A117_0 (rd_L4 l1 x6_1).length c117_0] rfl qz4 ?_;(with_reducible refine (spec_TrmOk.calls k1 _ _ (rd_L4 l1 x6_1) false _ ?side1 ?side2 A7.out).mono ?_);(case side1=>exact qz118);(case side2=>exact HC117_0.out);rintro e w12 ⟨rfl,hb⟩;refine ⟨_,rfl,?_⟩;have n0_:=Aside0.mk (Kd.R_below qz46 hb);have n1_:=Aside0.mk (below_step qz6 hb);clear HO_5 HB;have HO_5:=n0_;have HB:=n1_;clear n0_ n1_;(try clear hb);(try clear hb2);(try clear hk);(try clear hi))|((with_reducible refine gate_dst (N:=24) rfl ?_);refine Kd.R_lit k47 _ 47 ?hg (N:=24) ?hd (xs:=([]:List (S47))) (inner:=[]) (ok:=fun _=>True) (okp:=fun _=>True) ?hr ?hp (fun _ hk=>hk) trivial (Below.refl _ _) (Nat.le_refl _) (by simp) ?_;(case hd=>rfl);(case hg=>rfl);(case hr=>first|(go_simp;done)|(go_simp;rfl));(case hp=>exact (Reps.none _ _));intro v124 w13 ho14 hb hg_ hnew_;clear hg_ hnew_;(first|rw [← Ny123.out] at ho14|(simp only [Int.reduceToNat] at ho14;rw [← Ny123.out] at ho14));have n0_:=Aside0.mk (Kd.R_elder' qz46 (Kd.R_base ho14) hb);have n1_:=Aside0.mk (Kd.R_lower (Kd.R_new' ho14 (Kd.R_lt qz46)) (below_size qz6));have n2_:=Aside0.mk (below_step qz6 hb);clear HO_5 HB;have HO_5:=n0_;have HO125:=n1_;have HB:=n2_;clear n0_ n1_ n2_ hb ho14))
      go_ret
      exact ⟨_,qz9,by (with_reducible repeat (first|apply Kd.R_alloc|apply Kd.R_drewN|apply Kd.R_drew));exact Kd.R_mono HO125.out (fun _ hk=>trivial),qz12⟩
    ·rw [if_neg c6] at H
     exact absurd H (by simp)
   ·rw [if_neg c5] at H
    have c5b0:decide (x6_1<(l1.length:Int))=false:=decide_eq_false c5
    clear c5
    replace H:=Option.bind_eq_some_iff.mp H
    obtain ⟨t126,A150,H⟩:=H
    try dsimp only at H
    have A15:=Aside0.mk A150
    clear A150
    by_cases c16:t126=true
    ·subst c16
     have H1:(some x5_1)=some r:=qz55
     clear H
     have H:=H1
     clear H1
     obtain rfl:=Option.some.inj H
     obtain ⟨Ao17,co17,eo17⟩:=Kd.R_slice HO_5.out
     subst eo17
     go_wp2_with (first|((with_reducible refine gate_callee (f:=30) rfl ?_);refine goesL_ (some 32) rfl rfl Tryd.func30 (by kernel_rfl) rfl #[.slice Ao17 x5_1.length co17] rfl qz4 ?_;(with_reducible refine (spec_TrmOk.calls k1 _ _ x5_1 true _ ?side1 ?side2 A15.out).mono ?_);(case side1=>exact qz120);(case side2=>exact (Kd.R_reads' HO_5.out).2.1);rintro e w18 ⟨rfl,hb⟩;refine ⟨_,rfl,?_⟩;have n0_:=Aside0.mk (Kd.R_below qz46 hb);have n1_:=Aside0.mk (below_step qz6 hb);clear HO_5 HB;have HO_5:=n0_;have HB:=n1_;clear n0_ n1_;(try clear hb);(try clear hb2);(try clear hk);(try clear hi)))
     go_ret
     exact ⟨_,qz9,qz46,qz12⟩
    ·replace c16:=Bool.eq_false_iff.mpr c16
     subst c16
     have H1:(some (([]:List (S47))))=some r:=qz35
     clear H
     have H:=H1
     clear H1
     obtain ⟨y127,hy127⟩:∃ y_:List (S47),y_=(([]:List (S47))):=⟨_,rfl⟩
     replace H:(some y127)=some r:=by first|(rw [hy127];exact H)|exact H
     have Ny127:=Aside0.mk hy127
     clear hy127
     obtain rfl:=Option.some.inj H
     obtain ⟨Ao19,co19,eo19⟩:=Kd.R_slice HO_5.out
     subst eo19
     go_wp2_with (first|((with_reducible refine gate_callee (f:=30) rfl ?_);refine goesL_ (some 32) rfl rfl Tryd.func30 (by kernel_rfl) rfl #[.slice Ao19 x5_1.length co19] rfl qz4 ?_;(with_reducible refine (spec_TrmOk.calls k1 _ _ x5_1 false _ ?side1 ?side2 A15.out).mono ?_);(case side1=>exact qz120);(case side2=>exact (Kd.R_reads' HO_5.out).2.1);rintro e w20 ⟨rfl,hb⟩;refine ⟨_,rfl,?_⟩;have n0_:=Aside0.mk (Kd.R_below qz46 hb);have n1_:=Aside0.mk (below_step qz6 hb);clear HO_5 HB;have HO_5:=n0_;have HB:=n1_;clear n0_ n1_;(try clear hb);(try clear hb2);(try clear hk);(try clear hi))|((with_reducible refine gate_dst (N:=34) rfl ?_);refine Kd.R_lit k47 _ 47 ?hg (N:=34) ?hd (xs:=([]:List (S47))) (inner:=[]) (ok:=fun _=>True) (okp:=fun _=>True) ?hr ?hp (fun _ hk=>hk) trivial (Below.refl _ _) (Nat.le_refl _) (by simp) ?_;(case hd=>rfl);(case hg=>rfl);(case hr=>first|(go_simp;done)|(go_simp;rfl));(case hp=>exact (Reps.none _ _));intro v128 w21 ho22 hb hg_ hnew_;clear hg_ hnew_;(first|rw [← Ny127.out] at ho22|(simp only [Int.reduceToNat] at ho22;rw [← Ny127.out] at ho22));have n0_:=Aside0.mk (Kd.R_elder' qz46 (Kd.R_base ho22) hb);have n1_:=Aside0.mk (Kd.R_lower (Kd.R_new' ho22 (Kd.R_lt qz46)) (below_size qz6));have n2_:=Aside0.mk (below_step qz6 hb);clear HO_5 HB;have HO_5:=n0_;have HO129:=n1_;have HB:=n2_;clear n0_ n1_ n2_ hb ho22))
     go_ret
     exact ⟨_,qz9,by (with_reducible repeat (first|apply Kd.R_alloc|apply Kd.R_drewN|apply Kd.R_drew));exact Kd.R_mono HO129.out (fun _ hk=>trivial),qz12⟩

/-! ### impl_in: function 58 -/
def impl_in.f (a0:Int) (a1:Int) (a2:Int):Option (Bool):=if a0≥a1 then (some (decide (a0≤a2))) else (some false)
set_option maxHeartbeats 8000000 in
set_option maxRecDepth 100000 in
theorem impl_in.calls (a0:Int) (a1:Int) (a2:Int) (r:Bool) (w:World) (h:impl_in.f a0 a1 a2=some r) :
  Calls Tryd.prog 58 #[.int .i64 a0,.int .i64 a1,.int .i64 a2] w fun e w'=>e = .returned (.bool r)∧Drawn0 w w':=by
 have H:(if a0≥a1 then (some (decide (a0≤a2))) else (some false))=some r:=h
 clear h
 by_cases c4:a0≥a1
 ·rw [if_pos c4] at H
  have c4b0:decide (a1≤a0)=true:=decide_eq_true c4
  clear c4
  obtain rfl:=Option.some.inj H
  go_enter Tryd.func58,Tryd.ntmps58
  go_wp2
  go_ret
  exact ⟨qz27,qz45⟩
 ·rw [if_neg c4] at H
  have c4b0:decide (a1≤a0)=false:=decide_eq_false c4
  clear c4
  obtain rfl:=Option.some.inj H
  go_enter Tryd.func58,Tryd.ntmps58
  go_wp2
  go_ret
  exact ⟨qz27,qz45⟩

/-! ### strings_Trim: function 78 -/
/-- strings.Trim at an ASCII cutset: the shelf's. -/
def strings_Trim.f (a0:ByteArray) (a1:ByteArray):Option (ByteArray):=if a0.size≤9223372036854775807 then (if a1.size<4294967281 then (if a1.data.toList.all (fun b=>decide (b.toNat<128)) then some (⟨(Lib.trimS a0.data.toList a1.data.toList).toArray⟩:ByteArray) else none) else none) else none
theorem strings_Trim.calls (a0:ByteArray) (a1:ByteArray) (r:ByteArray) (w:World) (h:strings_Trim.f a0 a1=some r) :
  Calls Tryd.prog 78 #[.string a0,.string a1] w fun e w'=>e = .returned (.string r)∧Below w.heap.size w w':=by
 unfold strings_Trim.f at h
 by_cases h1:a0.size≤9223372036854775807
 case neg=>rw [if_neg h1] at h;cases h
 rw [if_pos h1] at h
 by_cases h2:a1.size<4294967281
 case neg=>rw [if_neg h2] at h;cases h
 rw [if_pos h2] at h
 by_cases h3:a1.data.toList.all (fun b=>decide (b.toNat<128))=true
 case neg=>rw [if_neg h3] at h;cases h
 rw [if_pos h3] at h
 obtain rfl:=Option.some.inj h
 refine Tryd.trim_set a0 a1 w h1 h2 ?_
 intro j b hj
 have:=List.all_eq_true.1 h3 b (List.mem_of_getElem? hj)
 simpa using this

/-! ### impl_nameOk: function 57 -/
def impl_nameOk.f (a0:ByteArray):Option (Bool):=(impl_in.f (a0.size:Int) 1 8).bind fun t325=>(if t325=true then ((strings_Trim.f a0 (⟨#[97,98,99,100,101,102,103,104,105,106,107,108,109,110,111,112,113,114,115,116,117,118,119,120,121,122]⟩:ByteArray)).bind fun t326=>(if t326.toList=([]:List UInt8) then (some (a0.toList != ([97,110,100]:List UInt8))) else (some false))) else (some false))
set_option maxHeartbeats 8000000 in
set_option maxRecDepth 100000 in
theorem impl_nameOk.calls (a0:ByteArray) (r:Bool) (w:World) (h:impl_nameOk.f a0=some r) :
  Calls Tryd.prog 57 #[.string a0] w fun e w'=>e = .returned (.bool r)∧Below w.heap.size w w':=by
 have HB:=Aside0.mk (Below.refl w.heap.size w)
 have H:((impl_in.f (a0.size:Int) 1 8).bind fun t325=>(if t325=true then ((strings_Trim.f a0 (⟨#[97,98,99,100,101,102,103,104,105,106,107,108,109,110,111,112,113,114,115,116,117,118,119,120,121,122]⟩:ByteArray)).bind fun t326=>(if t326.toList=([]:List UInt8) then (some (a0.toList != ([97,110,100]:List UInt8))) else (some false))) else (some false)))=some r:=h
 clear h
 replace H:=Option.bind_eq_some_iff.mp H
 obtain ⟨t325,A20,H⟩:=H
 try dsimp only at H
 have A2:=Aside0.mk A20
 clear A20
 by_cases c3:t325=true
 ·subst c3
  have H1:((strings_Trim.f a0 (⟨#[97,98,99,100,101,102,103,104,105,106,107,108,109,110,111,112,113,114,115,116,117,118,119,120,121,122]⟩:ByteArray)).bind fun t326=>(if t326.toList=([]:List UInt8) then (some (a0.toList != ([97,110,100]:List UInt8))) else (some false)))=some r:=qz55
  clear H
  have H:=H1
  clear H1
  replace H:=Option.bind_eq_some_iff.mp H
  obtain ⟨t326,A40,H⟩:=H
  try dsimp only at H
  have A4:=Aside0.mk A40
  clear A40
  by_cases c5:t326.toList=([]:List UInt8)
  ·rw [if_pos c5] at H
   have c5b0:(t326.toList == ([]:List UInt8))=true:=beq_iff_eq.mpr c5
   have c5b1:(t326.toList != ([]:List UInt8))=false:=bne_eq_false_iff_eq.mpr c5
   clear c5
   obtain rfl:=Option.some.inj H
   go_enter Tryd.func57,Tryd.ntmps57
   go_wp2_with (first|((with_reducible refine gate_callee (f:=58) rfl ?_);refine goesL_ (some 5) rfl rfl Tryd.func58 (by kernel_rfl) rfl #[.int .i64 (a0.size:Int),.int .i64 1,.int .i64 8] rfl qz4 ?_;(with_reducible refine (impl_in.calls (a0.size:Int) 1 8 true _ A2.out).mono ?_);rintro e w' ⟨rfl,⟨nd,rfl⟩⟩;refine ⟨_,rfl,?_⟩)|(go_at_call 78;(with_reducible refine (strings_Trim.calls a0 (⟨#[97,98,99,100,101,102,103,104,105,106,107,108,109,110,111,112,113,114,115,116,117,118,119,120,121,122]⟩:ByteArray) t326 _ A4.out).mono ?_);rintro e w6 ⟨rfl,hb⟩;have n0_:=Aside0.mk (below_step qz6 hb);clear HB;have HB:=n0_;clear n0_;(try clear hb);(try clear hb2);(try clear hk);(try clear hi)))
   go_ret
   exact ⟨qz9,qz12⟩
  ·rw [if_neg c5] at H
   have c5b0:(t326.toList == ([]:List UInt8))=false:=beq_eq_false_iff_ne.mpr c5
   have c5b1:(t326.toList != ([]:List UInt8))=true:=bne_iff_ne.mpr c5
   obtain rfl:=Option.some.inj H
   go_enter Tryd.func57,Tryd.ntmps57
   go_wp2_with (first|((with_reducible refine gate_callee (f:=58) rfl ?_);refine goesL_ (some 5) rfl rfl Tryd.func58 (by kernel_rfl) rfl #[.int .i64 (a0.size:Int),.int .i64 1,.int .i64 8] rfl qz4 ?_;(with_reducible refine (impl_in.calls (a0.size:Int) 1 8 true _ A2.out).mono ?_);rintro e w' ⟨rfl,⟨nd,rfl⟩⟩;refine ⟨_,rfl,?_⟩)|(go_at_call 78;(with_reducible refine (strings_Trim.calls a0 (⟨#[97,98,99,100,101,102,103,104,105,106,107,108,109,110,111,112,113,114,115,116,117,118,119,120,121,122]⟩:ByteArray) t326 _ A4.out).mono ?_);rintro e w7 ⟨rfl,hb⟩;have n0_:=Aside0.mk (below_step qz6 hb);clear HB;have HB:=n0_;clear n0_;(try clear hb);(try clear hb2);(try clear hk);(try clear hi)))
   go_ret
   exact ⟨qz9,qz12⟩
 ·replace c3:=Bool.eq_false_iff.mpr c3
  subst c3
  have H1:(some false)=some r:=qz35
  clear H
  have H:=H1
  clear H1
  obtain rfl:=Option.some.inj H
  go_enter Tryd.func57,Tryd.ntmps57
  go_wp2_with (first|((with_reducible refine gate_callee (f:=58) rfl ?_);refine goesL_ (some 5) rfl rfl Tryd.func58 (by kernel_rfl) rfl #[.int .i64 (a0.size:Int),.int .i64 1,.int .i64 8] rfl qz4 ?_;(with_reducible refine (impl_in.calls (a0.size:Int) 1 8 false _ A2.out).mono ?_);rintro e w' ⟨rfl,⟨nd,rfl⟩⟩;refine ⟨_,rfl,?_⟩))
  go_ret
  exact ⟨qz9,qz12⟩

/-! ### impl_TrmCell_ok: function 71 -/
def impl_TrmCell_ok.f (a0_0:Int) (a0_1:Int) (a0_2:ByteArray):Option (Bool):=if a0_0=1 then ((impl_in.f a0_1 0 99999).bind fun t328=>(if t328=true then (some (a0_2.toList == ([]:List UInt8))) else (some false))) else (if a0_0=2 then ((impl_in.f a0_1 (-9999) 9999).bind fun t329=>(if t329=true then (some (a0_2.toList == ([]:List UInt8))) else (some false))) else (if a0_0=3 then ((impl_in.f a0_1 0 3).bind fun t330=>(if t330=true then ((impl_nameOk.f a0_2).bind fun t331=>(some t331)) else (some false))) else (some false)))
set_option maxHeartbeats 8000000 in
set_option maxRecDepth 100000 in
theorem impl_TrmCell_ok.calls (a0_0:Int) (a0_1:Int) (a0_2:ByteArray) (r:Bool) (w:World) (h:impl_TrmCell_ok.f a0_0 a0_1 a0_2=some r) :
  Calls Tryd.prog 71 #[.agg #[.int .i64 a0_0,.int .i64 a0_1,.string a0_2]] w fun e w'=>e = .returned (.bool r)∧Below w.heap.size w w':=by
 have hu47:=Tryd.underlying47
 have HB:=Aside0.mk (Below.refl w.heap.size w)
 have H:(if a0_0=1 then ((impl_in.f a0_1 0 99999).bind fun t328=>(if t328=true then (some (a0_2.toList == ([]:List UInt8))) else (some false))) else (if a0_0=2 then ((impl_in.f a0_1 (-9999) 9999).bind fun t329=>(if t329=true then (some (a0_2.toList == ([]:List UInt8))) else (some false))) else (if a0_0=3 then ((impl_in.f a0_1 0 3).bind fun t330=>(if t330=true then ((impl_nameOk.f a0_2).bind fun t331=>(some t331)) else (some false))) else (some false))))=some r:=h
 clear h
 by_cases c2:a0_0=1
 ·rw [if_pos c2] at H
  have c2b0:(a0_0 == 1)=true:=beq_iff_eq.mpr c2
  have c2b1:(a0_0 != 1)=false:=bne_eq_false_iff_eq.mpr c2
  clear c2
  replace H:=Option.bind_eq_some_iff.mp H
  obtain ⟨t328,A30,H⟩:=H
  try dsimp only at H
  have A3:=Aside0.mk A30
  clear A30
  by_cases c4:t328=true
  ·subst c4
   have H1:(some (a0_2.toList == ([]:List UInt8)))=some r:=qz55
   clear H
   have H:=H1
   clear H1
   obtain rfl:=Option.some.inj H
   go_enter Tryd.func71,Tryd.ntmps71
   go_wp2_with (first|((with_reducible refine gate_dst (N:=1) rfl ?_);refine box_event ?hg (N:=1) ?hd (cs:=#[.int .i64 a0_0,.int .i64 a0_1,.string a0_2]) (t:=47) ?hr ?_;(case hd=>rfl);(case hg=>rfl);(case hr=>first|(go_simp;done)|(go_simp;rfl));intro gb327 hg w5 hbox hb;have n0_:=Aside0.mk (below_step qz6 hb);have n1_:=Aside0.mk (hbox);have n2_:=Aside0.mk ((by rw [hg];exact (below_size qz6):w.heap.size≤gb327));have n3_:=Aside0.mk ((by rw [hg];exact (below_size qz6):w.heap.size≤gb327));clear HB;have HB:=n0_;have BK327:=n1_;have GW327:=n2_;have GE327:=n3_;clear n0_ n1_ n2_ n3_ hb hbox hg;have hcz6_0:w5.cell? ⟨gb327,0,none⟩=some (.int .i64 a0_0):=(blk_cell BK327.out 0).trans rfl;have hcz6_1:w5.cell? ⟨gb327,1,none⟩=some (.int .i64 a0_1):=(blk_cell BK327.out 1).trans rfl;have hcz6_2:w5.cell? ⟨gb327,2,none⟩=some (.string a0_2):=(blk_cell BK327.out 2).trans rfl;have hfz6_0:=blk_frozen BK327.out 0;have hfz6_1:=blk_frozen BK327.out 1;have hfz6_2:=blk_frozen BK327.out 2)|((with_reducible refine gate_callee (f:=58) rfl ?_);refine goesL_ (some 9) rfl rfl Tryd.func58 (by kernel_rfl) rfl #[.int .i64 a0_1,.int .i64 0,.int .i64 99999] rfl qz4 ?_;(with_reducible refine (impl_in.calls a0_1 0 99999 true _ A3.out).mono ?_);rintro e w' ⟨rfl,⟨nd,rfl⟩⟩;refine ⟨_,rfl,?_⟩))
   go_ret
   exact ⟨qz9,qz44⟩
  ·replace c4:=Bool.eq_false_iff.mpr c4
   subst c4
   have H1:(some false)=some r:=qz35
   clear H
   have H:=H1
   clear H1
   obtain rfl:=Option.some.inj H
   go_enter Tryd.func71,Tryd.ntmps71
   go_wp2_with (first|((with_reducible refine gate_dst (N:=1) rfl ?_);refine box_event ?hg (N:=1) ?hd (cs:=#[.int .i64 a0_0,.int .i64 a0_1,.string a0_2]) (t:=47) ?hr ?_;(case hd=>rfl);(case hg=>rfl);(case hr=>first|(go_simp;done)|(go_simp;rfl));intro gb327 hg w7 hbox hb;have n0_:=Aside0.mk (below_step qz6 hb);have n1_:=Aside0.mk (hbox);have n2_:=Aside0.mk ((by rw [hg];exact (below_size qz6):w.heap.size≤gb327));have n3_:=Aside0.mk ((by rw [hg];exact (below_size qz6):w.heap.size≤gb327));clear HB;have HB:=n0_;have BK327:=n1_;have GW327:=n2_;have GE327:=n3_;clear n0_ n1_ n2_ n3_ hb hbox hg;have hcz8_0:w7.cell? ⟨gb327,0,none⟩=some (.int .i64 a0_0):=(blk_cell BK327.out 0).trans rfl;have hcz8_1:w7.cell? ⟨gb327,1,none⟩=some (.int .i64 a0_1):=(blk_cell BK327.out 1).trans rfl;have hcz8_2:w7.cell? ⟨gb327,2,none⟩=some (.string a0_2):=(blk_cell BK327.out 2).trans rfl;have hfz8_0:=blk_frozen BK327.out 0;have hfz8_1:=blk_frozen BK327.out 1;have hfz8_2:=blk_frozen BK327.out 2)|((with_reducible refine gate_callee (f:=58) rfl ?_);refine goesL_ (some 9) rfl rfl Tryd.func58 (by kernel_rfl) rfl #[.int .i64 a0_1,.int .i64 0,.int .i64 99999] rfl qz4 ?_;(with_reducible refine (impl_in.calls a0_1 0 99999 false _ A3.out).mono ?_);rintro e w' ⟨rfl,⟨nd,rfl⟩⟩;refine ⟨_,rfl,?_⟩))
   go_ret
   exact ⟨qz9,qz44⟩
 ·rw [if_neg c2] at H
  have c2b0:(a0_0 == 1)=false:=beq_eq_false_iff_ne.mpr c2
  have c2b1:(a0_0 != 1)=true:=bne_iff_ne.mpr c2
  by_cases c9:a0_0=2
  ·rw [if_pos c9] at H
   have c9b0:(a0_0 == 2)=true:=beq_iff_eq.mpr c9
   have c9b1:(a0_0 != 2)=false:=bne_eq_false_iff_eq.mpr c9
   clear c9
   replace H:=Option.bind_eq_some_iff.mp H
   obtain ⟨t329,A100,H⟩:=H
   try dsimp only at H
   have A10:=Aside0.mk A100
   clear A100
   by_cases c11:t329=true
   ·subst c11
    have H1:(some (a0_2.toList == ([]:List UInt8)))=some r:=qz55
    clear H
    have H:=H1
    clear H1
    obtain rfl:=Option.some.inj H
    go_enter Tryd.func71,Tryd.ntmps71
    go_wp2_with (first|((with_reducible refine gate_dst (N:=1) rfl ?_);refine box_event ?hg (N:=1) ?hd (cs:=#[.int .i64 a0_0,.int .i64 a0_1,.string a0_2]) (t:=47) ?hr ?_;(case hd=>rfl);(case hg=>rfl);(case hr=>first|(go_simp;done)|(go_simp;rfl));intro gb327 hg w12 hbox hb;have n0_:=Aside0.mk (below_step qz6 hb);have n1_:=Aside0.mk (hbox);have n2_:=Aside0.mk ((by rw [hg];exact (below_size qz6):w.heap.size≤gb327));have n3_:=Aside0.mk ((by rw [hg];exact (below_size qz6):w.heap.size≤gb327));clear HB;have HB:=n0_;have BK327:=n1_;have GW327:=n2_;have GE327:=n3_;clear n0_ n1_ n2_ n3_ hb hbox hg;have hcz13_0:w12.cell? ⟨gb327,0,none⟩=some (.int .i64 a0_0):=(blk_cell BK327.out 0).trans rfl;have hcz13_1:w12.cell? ⟨gb327,1,none⟩=some (.int .i64 a0_1):=(blk_cell BK327.out 1).trans rfl;have hcz13_2:w12.cell? ⟨gb327,2,none⟩=some (.string a0_2):=(blk_cell BK327.out 2).trans rfl;have hfz13_0:=blk_frozen BK327.out 0;have hfz13_1:=blk_frozen BK327.out 1;have hfz13_2:=blk_frozen BK327.out 2)|((with_reducible refine gate_callee (f:=58) rfl ?_);refine goesL_ (some 19) rfl rfl Tryd.func58 (by kernel_rfl) rfl #[.int .i64 a0_1,.int .i64 (-9999),.int .i64 9999] rfl qz4 ?_;(with_reducible refine (impl_in.calls a0_1 (-9999) 9999 true _ A10.out).mono ?_);rintro e w' ⟨rfl,⟨nd,rfl⟩⟩;refine ⟨_,rfl,?_⟩))
    go_ret
    exact ⟨qz9,qz44⟩
   ·replace c11:=Bool.eq_false_iff.mpr c11
    subst c11
    have H1:(some false)=some r:=qz35
    clear H
    have H:=H1
    clear H1
    obtain rfl:=Option.some.inj H
    go_enter Tryd.func71,Tryd.ntmps71
    go_wp2_with (first|((with_reducible refine gate_dst (N:=1) rfl ?_);refine box_event ?hg (N:=1) ?hd (cs:=#[.int .i64 a0_0,.int .i64 a0_1,.string a0_2]) (t:=47) ?hr ?_;(case hd=>rfl);(case hg=>rfl);(case hr=>first|(go_simp;done)|(go_simp;rfl));intro gb327 hg w14 hbox hb;have n0_:=Aside0.mk (below_step qz6 hb);have n1_:=Aside0.mk (hbox);have n2_:=Aside0.mk ((by rw [hg];exact (below_size qz6):w.heap.size≤gb327));have n3_:=Aside0.mk ((by rw [hg];exact (below_size qz6):w.heap.size≤gb327));clear HB;have HB:=n0_;have BK327:=n1_;have GW327:=n2_;have GE327:=n3_;clear n0_ n1_ n2_ n3_ hb hbox hg;have hcz15_0:w14.cell? ⟨gb327,0,none⟩=some (.int .i64 a0_0):=(blk_cell BK327.out 0).trans rfl;have hcz15_1:w14.cell? ⟨gb327,1,none⟩=some (.int .i64 a0_1):=(blk_cell BK327.out 1).trans rfl;have hcz15_2:w14.cell? ⟨gb327,2,none⟩=some (.string a0_2):=(blk_cell BK327.out 2).trans rfl;have hfz15_0:=blk_frozen BK327.out 0;have hfz15_1:=blk_frozen BK327.out 1;have hfz15_2:=blk_frozen BK327.out 2)|((with_reducible refine gate_callee (f:=58) rfl ?_);refine goesL_ (some 19) rfl rfl Tryd.func58 (by kernel_rfl) rfl #[.int .i64 a0_1,.int .i64 (-9999),.int .i64 9999] rfl qz4 ?_;(with_reducible refine (impl_in.calls a0_1 (-9999) 9999 false _ A10.out).mono ?_);rintro e w' ⟨rfl,⟨nd,rfl⟩⟩;refine ⟨_,rfl,?_⟩))
    go_ret
    exact ⟨qz9,qz44⟩
  ·rw [if_neg c9] at H
   have c9b0:(a0_0 == 2)=false:=beq_eq_false_iff_ne.mpr c9
   have c9b1:(a0_0 != 2)=true:=bne_iff_ne.mpr c9
   by_cases c16:a0_0=3
   ·rw [if_pos c16] at H
    have c16b0:(a0_0 == 3)=true:=beq_iff_eq.mpr c16
    have c16b1:(a0_0 != 3)=false:=bne_eq_false_iff_eq.mpr c16
    clear c16
    replace H:=Option.bind_eq_some_iff.mp H
    obtain ⟨t330,A170,H⟩:=H
    try dsimp only at H
    have A17:=Aside0.mk A170
    clear A170
    by_cases c18:t330=true
    ·subst c18
     have H1:((impl_nameOk.f a0_2).bind fun t331=>(some t331))=some r:=qz55
     clear H
     have H:=H1
     clear H1
     replace H:=Option.bind_eq_some_iff.mp H
     obtain ⟨t331,A190,H⟩:=H
     try dsimp only at H
     have A19:=Aside0.mk A190
     clear A190
     obtain rfl:=Option.some.inj H
     go_enter Tryd.func71,Tryd.ntmps71
     go_wp2_with (first|((with_reducible refine gate_dst (N:=1) rfl ?_);refine box_event ?hg (N:=1) ?hd (cs:=#[.int .i64 a0_0,.int .i64 a0_1,.string a0_2]) (t:=47) ?hr ?_;(case hd=>rfl);(case hg=>rfl);(case hr=>first|(go_simp;done)|(go_simp;rfl));intro gb327 hg w20 hbox hb;have n0_:=Aside0.mk (below_step qz6 hb);have n1_:=Aside0.mk (hbox);have n2_:=Aside0.mk ((by rw [hg];exact (below_size qz6):w.heap.size≤gb327));have n3_:=Aside0.mk ((by rw [hg];exact (below_size qz6):w.heap.size≤gb327));clear HB;have HB:=n0_;have BK327:=n1_;have GW327:=n2_;have GE327:=n3_;clear n0_ n1_ n2_ n3_ hb hbox hg;have hcz21_0:w20.cell? ⟨gb327,0,none⟩=some (.int .i64 a0_0):=(blk_cell BK327.out 0).trans rfl;have hcz21_1:w20.cell? ⟨gb327,1,none⟩=some (.int .i64 a0_1):=(blk_cell BK327.out 1).trans rfl;have hcz21_2:w20.cell? ⟨gb327,2,none⟩=some (.string a0_2):=(blk_cell BK327.out 2).trans rfl;have hfz21_0:=blk_frozen BK327.out 0;have hfz21_1:=blk_frozen BK327.out 1;have hfz21_2:=blk_frozen BK327.out 2)|((with_reducible refine gate_callee (f:=58) rfl ?_);refine goesL_ (some 29) rfl rfl Tryd.func58 (by kernel_rfl) rfl #[.int .i64 a0_1,.int .i64 0,.int .i64 3] rfl qz4 ?_;(with_reducible refine (impl_in.calls a0_1 0 3 true _ A17.out).mono ?_);rintro e w' ⟨rfl,⟨nd,rfl⟩⟩;refine ⟨_,rfl,?_⟩)|(go_at_call 57;(with_reducible refine (impl_nameOk.calls a0_2 t331 _ A19.out).mono ?_);rintro e w22 ⟨rfl,hb⟩;have n0_:=Aside0.mk (blk_below (g:=gb327) (o:=.cells #[.int .i64 a0_0,.int .i64 a0_1,.string a0_2] 47 (0,0)) (by (with_reducible repeat (first|refine blk_drewN ?_ _|refine blk_drew ?_|refine blk_alloc ?_ _));exact BK327.out) hb);have n1_:=Aside0.mk (below_step qz44 hb);clear BK327 HB;have BK327:=n0_;have HB:=n1_;clear n0_ n1_;(try clear hb);(try clear hb2);(try clear hk);(try clear hi)))
     go_ret
     exact ⟨qz9,qz44⟩
    ·replace c18:=Bool.eq_false_iff.mpr c18
     subst c18
     have H1:(some false)=some r:=qz35
     clear H
     have H:=H1
     clear H1
     obtain rfl:=Option.some.inj H
     go_enter Tryd.func71,Tryd.ntmps71
     go_wp2_with (first|((with_reducible refine gate_dst (N:=1) rfl ?_);refine box_event ?hg (N:=1) ?hd (cs:=#[.int .i64 a0_0,.int .i64 a0_1,.string a0_2]) (t:=47) ?hr ?_;(case hd=>rfl);(case hg=>rfl);(case hr=>first|(go_simp;done)|(go_simp;rfl));intro gb327 hg w23 hbox hb;have n0_:=Aside0.mk (below_step qz6 hb);have n1_:=Aside0.mk (hbox);have n2_:=Aside0.mk ((by rw [hg];exact (below_size qz6):w.heap.size≤gb327));have n3_:=Aside0.mk ((by rw [hg];exact (below_size qz6):w.heap.size≤gb327));clear HB;have HB:=n0_;have BK327:=n1_;have GW327:=n2_;have GE327:=n3_;clear n0_ n1_ n2_ n3_ hb hbox hg;have hcz24_0:w23.cell? ⟨gb327,0,none⟩=some (.int .i64 a0_0):=(blk_cell BK327.out 0).trans rfl;have hcz24_1:w23.cell? ⟨gb327,1,none⟩=some (.int .i64 a0_1):=(blk_cell BK327.out 1).trans rfl;have hcz24_2:w23.cell? ⟨gb327,2,none⟩=some (.string a0_2):=(blk_cell BK327.out 2).trans rfl;have hfz24_0:=blk_frozen BK327.out 0;have hfz24_1:=blk_frozen BK327.out 1;have hfz24_2:=blk_frozen BK327.out 2)|((with_reducible refine gate_callee (f:=58) rfl ?_);refine goesL_ (some 29) rfl rfl Tryd.func58 (by kernel_rfl) rfl #[.int .i64 a0_1,.int .i64 0,.int .i64 3] rfl qz4 ?_;(with_reducible refine (impl_in.calls a0_1 0 3 false _ A17.out).mono ?_);rintro e w' ⟨rfl,⟨nd,rfl⟩⟩;refine ⟨_,rfl,?_⟩))
     go_ret
     exact ⟨qz9,qz44⟩
   ·rw [if_neg c16] at H
    have c16b0:(a0_0 == 3)=false:=beq_eq_false_iff_ne.mpr c16
    have c16b1:(a0_0 != 3)=true:=bne_iff_ne.mpr c16
    obtain rfl:=Option.some.inj H
    go_enter Tryd.func71,Tryd.ntmps71
    go_wp2_with (first|((with_reducible refine gate_dst (N:=1) rfl ?_);refine box_event ?hg (N:=1) ?hd (cs:=#[.int .i64 a0_0,.int .i64 a0_1,.string a0_2]) (t:=47) ?hr ?_;(case hd=>rfl);(case hg=>rfl);(case hr=>first|(go_simp;done)|(go_simp;rfl));intro gb327 hg w25 hbox hb;have n0_:=Aside0.mk (below_step qz6 hb);have n1_:=Aside0.mk (hbox);have n2_:=Aside0.mk ((by rw [hg];exact (below_size qz6):w.heap.size≤gb327));have n3_:=Aside0.mk ((by rw [hg];exact (below_size qz6):w.heap.size≤gb327));clear HB;have HB:=n0_;have BK327:=n1_;have GW327:=n2_;have GE327:=n3_;clear n0_ n1_ n2_ n3_ hb hbox hg;have hcz26_0:w25.cell? ⟨gb327,0,none⟩=some (.int .i64 a0_0):=(blk_cell BK327.out 0).trans rfl;have hcz26_1:w25.cell? ⟨gb327,1,none⟩=some (.int .i64 a0_1):=(blk_cell BK327.out 1).trans rfl;have hcz26_2:w25.cell? ⟨gb327,2,none⟩=some (.string a0_2):=(blk_cell BK327.out 2).trans rfl;have hfz26_0:=blk_frozen BK327.out 0;have hfz26_1:=blk_frozen BK327.out 1;have hfz26_2:=blk_frozen BK327.out 2))
    go_ret
    exact ⟨qz9,qz44⟩

/-! ### impl_TrmCell_arity: function 87 -/
def impl_TrmCell_arity.f (a0_0:Int) (a0_1:Int) (a0_2:ByteArray):Option (Int):=if a0_0=3 then (some a0_1) else (some 0)
set_option maxHeartbeats 8000000 in
set_option maxRecDepth 100000 in
theorem impl_TrmCell_arity.calls (a0_0:Int) (a0_1:Int) (a0_2:ByteArray) (r:Int) (w:World) (h:impl_TrmCell_arity.f a0_0 a0_1 a0_2=some r) :
  Calls Tryd.prog 87 #[.agg #[.int .i64 a0_0,.int .i64 a0_1,.string a0_2]] w fun e w'=>e = .returned (.int .i64 r)∧Below w.heap.size w w':=by
 have hu47:=Tryd.underlying47
 have HB:=Aside0.mk (Below.refl w.heap.size w)
 have H:(if a0_0=3 then (some a0_1) else (some 0))=some r:=h
 clear h
 by_cases c2:a0_0=3
 ·rw [if_pos c2] at H
  have c2b0:(a0_0 == 3)=true:=beq_iff_eq.mpr c2
  have c2b1:(a0_0 != 3)=false:=bne_eq_false_iff_eq.mpr c2
  clear c2
  obtain rfl:=Option.some.inj H
  go_enter Tryd.func87,Tryd.ntmps87
  go_wp2_with (first|((with_reducible refine gate_dst (N:=1) rfl ?_);refine box_event ?hg (N:=1) ?hd (cs:=#[.int .i64 a0_0,.int .i64 a0_1,.string a0_2]) (t:=47) ?hr ?_;(case hd=>rfl);(case hg=>rfl);(case hr=>first|(go_simp;done)|(go_simp;rfl));intro gb332 hg w3 hbox hb;have n0_:=Aside0.mk (below_step qz6 hb);have n1_:=Aside0.mk (hbox);have n2_:=Aside0.mk ((by rw [hg];exact (below_size qz6):w.heap.size≤gb332));have n3_:=Aside0.mk ((by rw [hg];exact (below_size qz6):w.heap.size≤gb332));clear HB;have HB:=n0_;have BK332:=n1_;have GW332:=n2_;have GE332:=n3_;clear n0_ n1_ n2_ n3_ hb hbox hg;have hcz4_0:w3.cell? ⟨gb332,0,none⟩=some (.int .i64 a0_0):=(blk_cell BK332.out 0).trans rfl;have hcz4_1:w3.cell? ⟨gb332,1,none⟩=some (.int .i64 a0_1):=(blk_cell BK332.out 1).trans rfl;have hcz4_2:w3.cell? ⟨gb332,2,none⟩=some (.string a0_2):=(blk_cell BK332.out 2).trans rfl;have hfz4_0:=blk_frozen BK332.out 0;have hfz4_1:=blk_frozen BK332.out 1;have hfz4_2:=blk_frozen BK332.out 2))
  go_ret
  exact ⟨qz9,qz121⟩
 ·rw [if_neg c2] at H
  have c2b0:(a0_0 == 3)=false:=beq_eq_false_iff_ne.mpr c2
  have c2b1:(a0_0 != 3)=true:=bne_iff_ne.mpr c2
  obtain rfl:=Option.some.inj H
  go_enter Tryd.func87,Tryd.ntmps87
  go_wp2_with (first|((with_reducible refine gate_dst (N:=1) rfl ?_);refine box_event ?hg (N:=1) ?hd (cs:=#[.int .i64 a0_0,.int .i64 a0_1,.string a0_2]) (t:=47) ?hr ?_;(case hd=>rfl);(case hg=>rfl);(case hr=>first|(go_simp;done)|(go_simp;rfl));intro gb332 hg w5 hbox hb;have n0_:=Aside0.mk (below_step qz6 hb);have n1_:=Aside0.mk (hbox);have n2_:=Aside0.mk ((by rw [hg];exact (below_size qz6):w.heap.size≤gb332));have n3_:=Aside0.mk ((by rw [hg];exact (below_size qz6):w.heap.size≤gb332));clear HB;have HB:=n0_;have BK332:=n1_;have GW332:=n2_;have GE332:=n3_;clear n0_ n1_ n2_ n3_ hb hbox hg;have hcz6_0:w5.cell? ⟨gb332,0,none⟩=some (.int .i64 a0_0):=(blk_cell BK332.out 0).trans rfl;have hcz6_1:w5.cell? ⟨gb332,1,none⟩=some (.int .i64 a0_1):=(blk_cell BK332.out 1).trans rfl;have hcz6_2:w5.cell? ⟨gb332,2,none⟩=some (.string a0_2):=(blk_cell BK332.out 2).trans rfl;have hfz6_0:=blk_frozen BK332.out 0;have hfz6_1:=blk_frozen BK332.out 1;have hfz6_2:=blk_frozen BK332.out 2))
  go_ret
  exact ⟨qz9,qz121⟩

/-! ### impl_size: function 73 -/
def impl_size.l0:Nat→List (S47)→Int→Int→Option (Int)
 | 0,_,_,_=>none
 | k+1,x0,x3,x4=>if x4<x3 then (if x4=(x0.length:Int) then (some (wrap64 ((x0.length:Int)+1))) else (if 0≤x4 then (if x4<(x0.length:Int) then ((impl_TrmCell_arity.f ((rd_T47 x0 x4).f0) ((rd_T47 x0 x4).f1) ((rd_T47 x0 x4).f2)).bind fun t334=>(impl_size.l0 k x0 (wrap64 (x3+t334)) (wrap64 (x4+1)))) else (none)) else (none))) else (some x3)
def impl_size.f (k:Nat) (l0:List (S47)):Option (Int):=impl_size.l0 k l0 1 0
set_option maxHeartbeats 8000000 in
set_option maxRecDepth 100000 in
theorem impl_size.calls (k:Nat) (A0:Option Addr) (c0:Nat) (l0:List (S47)) (r:Int) (w:World) (hr0:Kd.C k47 w A0 l0.length l0) (hc0:l0.length≤c0) (h:impl_size.f k l0=some r) :
  Calls Tryd.prog 73 #[.slice A0 l0.length c0] w fun e w'=>e = .returned (.int .i64 r)∧Below w.heap.size w w':=by
 have hu47:=Tryd.underlying47
 have HR0:=Aside0.mk hr0
 have HC0:=Aside0.mk hc0
 clear hr0 hc0
 have HB:=Aside0.mk (Below.refl w.heap.size w)
 have H:(impl_size.l0 k l0 1 0)=some r:=h
 clear h
 have H':=Aside0.mk H
 clear H
 go_enter Tryd.func73,Tryd.ntmps73
 go_wp2
 go_loopg [3,4] k (fun kq v3 v4 w'=>∃ (x3_1:Int) (x4_1:Int),v3 = .int .i64 x3_1∧v4 = .int .i64 x4_1∧Aside0 (impl_size.l0 kq l0 x3_1 x4_1=some r)∧Aside0 (kq≤k)∧Aside0 (Below w.heap.size w w'))
 case atStart=>exact ⟨(1),(0),qz27,qz27,H',⟨Nat.le_refl _⟩,⟨qz12⟩⟩
 case round=>
  clear H'
  obtain ⟨x3_1,x4_1,rfl,rfl,HA,HK1,HB⟩:=hrel
  cases gk with
  | zero=>exact absurd HA.out (by simp [impl_size.l0])
  | succ k1=>
   have H:=HA.out
   clear HA
   simp only [impl_size.l0] at H
   by_cases c2:x4_1<x3_1
   ·rw [if_pos c2] at H
    have c2b0:decide (x4_1<x3_1)=true:=decide_eq_true c2
    clear c2
    by_cases c3:x4_1=(l0.length:Int)
    ·rw [if_pos c3] at H
     have c3b0:(x4_1 == (l0.length:Int))=true:=beq_iff_eq.mpr c3
     have c3b1:(x4_1 != (l0.length:Int))=false:=bne_eq_false_iff_eq.mpr c3
     clear c3
     obtain rfl:=Option.some.inj H
     go_wp2
     go_ret
     exact ⟨qz9,qz12⟩
    ·rw [if_neg c3] at H
     have c3b0:(x4_1 == (l0.length:Int))=false:=beq_eq_false_iff_ne.mpr c3
     have c3b1:(x4_1 != (l0.length:Int))=true:=bne_iff_ne.mpr c3
     by_cases c4:0≤x4_1
     ·rw [if_pos c4] at H
      have c4b0:decide (0≤x4_1)=true:=decide_eq_true c4
      clear c4
      by_cases c5:x4_1<(l0.length:Int)
      ·rw [if_pos c5] at H
       have c5b0:decide (x4_1<(l0.length:Int))=true:=decide_eq_true c5
       clear c5
       replace H:=Option.bind_eq_some_iff.mp H
       obtain ⟨t334,A60,H⟩:=H
       try dsimp only at H
       have A6:=Aside0.mk A60
       clear A60
       have H':=Aside0.mk H
       clear H
       have p333:0≤(x4_1:Int):=of_decide_eq_true qz10
       have q333:x4_1<(l0.length:Int):=of_decide_eq_true qz10
       obtain ⟨ad333,e333,hx333_0,hx333_1,hx333_2⟩:=at_T47 HR0.out x4_1 p333 q333
       cases e333
       replace hx333_0:=(HB.out.cell (World.block_lt_of_cell? w _ hx333_0)).trans hx333_0
       replace hx333_1:=(HB.out.cell (World.block_lt_of_cell? w _ hx333_1)).trans hx333_1
       replace hx333_2:=(HB.out.cell (World.block_lt_of_cell? w _ hx333_2)).trans hx333_2
       replace p333:=eq_true p333
       replace q333:=eq_true q333
       go_wp2_with (first|((with_reducible refine gate_callee (f:=87) rfl ?_);refine goesL_ (some 22) rfl rfl Tryd.func87 (by kernel_rfl) rfl #[.agg #[.int .i64 ((rd_T47 l0 x4_1).f0),.int .i64 ((rd_T47 l0 x4_1).f1),.string ((rd_T47 l0 x4_1).f2)]] rfl qz4 ?_;(with_reducible refine (impl_TrmCell_arity.calls ((rd_T47 l0 x4_1).f0) ((rd_T47 l0 x4_1).f1) ((rd_T47 l0 x4_1).f2) t334 _ A6.out).mono ?_);rintro e w7 ⟨rfl,hb⟩;refine ⟨_,rfl,?_⟩;have n0_:=Aside0.mk (below_step qz6 hb);clear HB;have HB:=n0_;clear n0_;(try clear hb);(try clear hb2);(try clear hk);(try clear hi)))
       go_roundg k1
       case measure=>have:=HK1.out;omega
       case rel=>exact ⟨(wrap64 (x3_1+t334)),(wrap64 (x4_1+1)),qz27,qz27,H',⟨by have:=HK1.out;omega⟩,⟨qz12⟩⟩
      ·rw [if_neg c5] at H
       exact absurd H (by simp)
     ·rw [if_neg c4] at H
      exact absurd H (by simp)
   ·rw [if_neg c2] at H
    have c2b0:decide (x4_1<x3_1)=false:=decide_eq_false c2
    clear c2
    obtain rfl:=Option.some.inj H
    go_wp2
    go_ret
    exact ⟨qz9,qz12⟩

end Go.Proofs.YtepkgjcobocbpaaDoor.P
