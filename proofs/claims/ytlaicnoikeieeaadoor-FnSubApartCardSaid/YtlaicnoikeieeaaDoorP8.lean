/- Contracts of functions of the program: each as a Lean function, and that its call does what that says; printed by cprint.py (this session) over print.py of the kit. Conditions: the hypotheses of each theorem. -/
import Derived.Test.YtlaicnoikeieeaaDoorVZ
import Derived.Test.YtlaicnoikeieeaaDoorP0
import Derived.Test.YtlaicnoikeieeaaDoorP7
namespace Go.Proofs.YtlaicnoikeieeaaDoor.P
open Go.RowKit Go.Proofs.YtlaicnoikeieeaaDoorW.PrintWords Go.Proofs.YtlaicnoikeieeaaDoorW.PrintLast Go.Proofs.YtlaicnoikeieeaaDoorW.PrintMore
attribute [local go_sem] max2_int min2_int max_two min_two max_three min_three max_four min_four   -- for this text's walks alone
set_option linter.unusedVariables false
set_option linter.unusedSimpArgs false

/-! ### spec_TrmFree: function 48 -/
def spec_TrmFree.l0:Nat→List (S46)→List Int→Int→Option (List Int)
 | 0,_,_,_=>none
 | k+1,x0,x3,x4=>if x4<(x0.length:Int) then (if 0≤x4 then (if ((rd_T46 x0 x4).f0)=1 then ((spec_l1Has.f k x3 ((rd_T46 x0 x4).f1)).bind fun t174=>(if t174=true then (spec_TrmFree.l0 k x0 x3 (wrap64 (x4+1))) else (if x3.length<17592186044416 then (spec_TrmFree.l0 k x0 (x3++[(rd_T46 x0 x4).f1]) (wrap64 (x4+1))) else (none)))) else (spec_TrmFree.l0 k x0 x3 (wrap64 (x4+1)))) else (none)) else (some x3)
def spec_TrmFree.f (k:Nat) (l0:List (S46)):Option (List Int):=spec_TrmFree.l0 k l0 (([]:List Int)) 0
set_option maxHeartbeats 8000000 in
set_option maxRecDepth 100000 in
theorem spec_TrmFree.calls (k:Nat) (A0:Option Addr) (c0:Nat) (l0:List (S46)) (r:List Int) (w:World) (hr0:Kd.C k46 w A0 l0.length l0) (hc0:l0.length≤c0) (h:spec_TrmFree.f k l0=some r) :
  Calls Tryd.prog 48 #[.slice A0 l0.length c0] w fun e w'=>∃ v0_:Value,e = .returned (v0_)∧Kd.R (Kd.int .i64) 3 w' w.heap.size (fun _=>True) v0_ r∧Below w.heap.size w w':=by
 have HR0:=Aside0.mk hr0
 have HC0:=Aside0.mk hc0
 clear hr0 hc0
 have HB:=Aside0.mk (Below.refl w.heap.size w)
 have H:(spec_TrmFree.l0 k l0 (([]:List Int)) 0)=some r:=h
 clear h
 obtain ⟨y169,hy169⟩:∃ y_:List Int,y_=(([]:List Int)):=⟨_,rfl⟩
 replace H:(spec_TrmFree.l0 k l0 y169 0)=some r:=by first|(rw [hy169];exact H)|exact H
 have Ny169:=Aside0.mk hy169
 clear hy169
 have H':=Aside0.mk H
 clear H
 go_enter Tryd.func48,Tryd.ntmps48
 go_wp2_with (first|((with_reducible refine gate_dst (N:=5) rfl ?_);refine Kd.R_lit (Kd.int .i64) _ 3 ?hg (N:=5) ?hd (xs:=([]:List Int)) (inner:=[]) (ok:=fun _=>True) (okp:=fun _=>True) ?hr ?hp (fun _ hk=>hk) trivial (Below.refl _ _) (Nat.le_refl _) (by simp) ?_;(case hd=>rfl);(case hg=>rfl);(case hr=>first|(go_simp;done)|(go_simp;rfl));(case hp=>exact (Reps.none _ _));intro v170 w2 ho3 hb hg_ hnew_;clear hg_ hnew_;(first|rw [← Ny169.out] at ho3|(simp only [Int.reduceToNat] at ho3;rw [← Ny169.out] at ho3));have n0_:=Aside0.mk (Kd.R_lower ho3 (below_size qz4));have n1_:=Aside0.mk (below_step qz4 hb);clear HB;have HO171:=n0_;have HB:=n1_;clear n0_ n1_ hb ho3))
 go_loopg [3,4] k (fun kq v3 v4 w'=>∃ (x3_1:List Int) (x4_1:Int),v4 = .int .i64 x4_1∧Aside0 (spec_TrmFree.l0 kq l0 x3_1 x4_1=some r)∧Aside0 (kq≤k)∧Aside0 (Kd.R (Kd.int .i64) 3 w' w.heap.size (fun _=>True) v3 x3_1)∧Aside0 (Below w.heap.size w w'))
 case atStart=>exact ⟨(y169),(0),qz9,H',⟨Nat.le_refl _⟩,⟨by (with_reducible repeat (first|apply Kd.R_alloc|apply Kd.R_drewN|apply Kd.R_drew));exact HO171.out⟩,⟨qz5⟩⟩
 case round=>
  clear H'
  try clear p2
  obtain ⟨x3_1,x4_1,rfl,HA,HK1,HO_3,HB⟩:=hrel
  cases gk with
  | zero=>exact absurd HA.out (by simp [spec_TrmFree.l0])
  | succ k1=>
   have H:=HA.out
   clear HA
   simp only [spec_TrmFree.l0] at H
   by_cases c4:x4_1<(l0.length:Int)
   ·rw [if_pos c4] at H
    have c4b0:decide (x4_1<(l0.length:Int))=true:=decide_eq_true c4
    clear c4
    by_cases c5:0≤x4_1
    ·rw [if_pos c5] at H
     have c5b0:decide (0≤x4_1)=true:=decide_eq_true c5
     clear c5
     by_cases c6:((rd_T46 l0 x4_1).f0)=1
     ·rw [if_pos c6] at H
      have c6b0:(((rd_T46 l0 x4_1).f0) == 1)=true:=beq_iff_eq.mpr c6
      have c6b1:(((rd_T46 l0 x4_1).f0) != 1)=false:=bne_eq_false_iff_eq.mpr c6
      clear c6
      replace H:=Option.bind_eq_some_iff.mp H
      obtain ⟨t174,A70,H⟩:=H
      try dsimp only at H
      have A7:=Aside0.mk A70
      clear A70
      by_cases c8:t174=true
      ·subst c8
       have H1:(spec_TrmFree.l0 k1 l0 x3_1 (wrap64 (x4_1+1)))=some r:=qz46
       clear H
       have H:=H1
       clear H1
       have H':=Aside0.mk H
       clear H
       have p172:0≤(x4_1:Int):=of_decide_eq_true qz6
       have q172:x4_1<(l0.length:Int):=of_decide_eq_true qz6
       obtain ⟨ad172,e172,hx172_0,hx172_1,hx172_2⟩:=at_T46 HR0.out x4_1 p172 q172
       cases e172
       replace hx172_0:=(HB.out.cell (World.block_lt_of_cell? w _ hx172_0)).trans hx172_0
       replace hx172_1:=(HB.out.cell (World.block_lt_of_cell? w _ hx172_1)).trans hx172_1
       replace hx172_2:=(HB.out.cell (World.block_lt_of_cell? w _ hx172_2)).trans hx172_2
       replace p172:=eq_true p172
       replace q172:=eq_true q172
       have p173:0≤(x4_1:Int):=of_decide_eq_true qz6
       have q173:x4_1<(l0.length:Int):=of_decide_eq_true qz6
       obtain ⟨ad173,e173,hx173_0,hx173_1,hx173_2⟩:=at_T46 HR0.out x4_1 p173 q173
       obtain rfl:ad172=ad173:=(by injection e173)
       replace hx173_0:=(HB.out.cell (World.block_lt_of_cell? w _ hx173_0)).trans hx173_0
       replace hx173_1:=(HB.out.cell (World.block_lt_of_cell? w _ hx173_1)).trans hx173_1
       replace hx173_2:=(HB.out.cell (World.block_lt_of_cell? w _ hx173_2)).trans hx173_2
       replace p173:=eq_true p173
       replace q173:=eq_true q173
       obtain ⟨Ao9,co9,eo9⟩:=Kd.R_slice HO_3.out
       subst eo9
       go_wp2_with (first|(go_at_call 58;(with_reducible refine (spec_l1Has.calls k1 _ _ x3_1 ((rd_T46 l0 x4_1).f1) true _ ?side1 ?side2 A7.out).mono ?_);(case side1=>exact qz75);(case side2=>exact (Kd.R_reads' HO_3.out).2.1);rintro e w' ⟨rfl,⟨nd,rfl⟩⟩))
       go_roundg k1
       case measure=>have:=HK1.out;omega
       case rel=>exact ⟨(x3_1),(wrap64 (x4_1+1)),qz9,H',⟨by have:=HK1.out;omega⟩,⟨qz42⟩,⟨qz5⟩⟩
      ·replace c8:=Bool.eq_false_iff.mpr c8
       subst c8
       have H1:(if x3_1.length<17592186044416 then (spec_TrmFree.l0 k1 l0 (x3_1++[(rd_T46 l0 x4_1).f1]) (wrap64 (x4_1+1))) else (none))=some r:=qz27
       clear H
       have H:=H1
       clear H1
       by_cases c10:x3_1.length<17592186044416
       ·rw [if_pos c10] at H
        have LMc10:=Aside0.mk c10
        clear c10
        obtain ⟨y176,hy176⟩:∃ y_:List Int,y_=(x3_1++[(rd_T46 l0 x4_1).f1]):=⟨_,rfl⟩
        replace H:(spec_TrmFree.l0 k1 l0 y176 (wrap64 (x4_1+1)))=some r:=by first|(rw [hy176];exact H)|exact H
        have Ny176:=Aside0.mk hy176
        clear hy176
        have H':=Aside0.mk H
        clear H
        have p172:0≤(x4_1:Int):=of_decide_eq_true qz6
        have q172:x4_1<(l0.length:Int):=of_decide_eq_true qz6
        obtain ⟨ad172,e172,hx172_0,hx172_1,hx172_2⟩:=at_T46 HR0.out x4_1 p172 q172
        cases e172
        replace hx172_0:=(HB.out.cell (World.block_lt_of_cell? w _ hx172_0)).trans hx172_0
        replace hx172_1:=(HB.out.cell (World.block_lt_of_cell? w _ hx172_1)).trans hx172_1
        replace hx172_2:=(HB.out.cell (World.block_lt_of_cell? w _ hx172_2)).trans hx172_2
        replace p172:=eq_true p172
        replace q172:=eq_true q172
        have p173:0≤(x4_1:Int):=of_decide_eq_true qz6
        have q173:x4_1<(l0.length:Int):=of_decide_eq_true qz6
        obtain ⟨ad173,e173,hx173_0,hx173_1,hx173_2⟩:=at_T46 HR0.out x4_1 p173 q173
        obtain rfl:ad172=ad173:=(by injection e173)
        replace hx173_0:=(HB.out.cell (World.block_lt_of_cell? w _ hx173_0)).trans hx173_0
        replace hx173_1:=(HB.out.cell (World.block_lt_of_cell? w _ hx173_1)).trans hx173_1
        replace hx173_2:=(HB.out.cell (World.block_lt_of_cell? w _ hx173_2)).trans hx173_2
        replace p173:=eq_true p173
        replace q173:=eq_true q173
        obtain ⟨Ao11,co11,eo11⟩:=Kd.R_slice HO_3.out
        subst eo11
        go_wp2_with (first|(go_at_call 58;(with_reducible refine (spec_l1Has.calls k1 _ _ x3_1 ((rd_T46 l0 x4_1).f1) false _ ?side1 ?side2 A7.out).mono ?_);(case side1=>exact qz75);(case side2=>exact (Kd.R_reads' HO_3.out).2.1);rintro e w' ⟨rfl,⟨nd,rfl⟩⟩;have p175:0≤(x4_1:Int):=of_decide_eq_true qz6;have q175:x4_1<(l0.length:Int):=of_decide_eq_true qz6;obtain ⟨ad175,e175,hx175_0,hx175_1,hx175_2⟩:=at_T46 HR0.out x4_1 p175 q175;obtain rfl:ad172=ad175:=(by injection e175);replace hx175_0:=(HB.out.cell (World.block_lt_of_cell? w _ hx175_0)).trans hx175_0;replace hx175_1:=(HB.out.cell (World.block_lt_of_cell? w _ hx175_1)).trans hx175_1;replace hx175_2:=(HB.out.cell (World.block_lt_of_cell? w _ hx175_2)).trans hx175_2;replace p175:=eq_true p175;replace q175:=eq_true q175)|((with_reducible refine gate_builtin (b:=.append) (xs:=#[.tmp 28,.tmp 34]) rfl ?_);at_builtin;refine Kd.R_append (Kd.int .i64) (w0:=w) w.heap.size rfl (.tmp 28) (.tmp 34) 43 3 (.int .i64 0) 8 rfl Tryd.underlying43 info3 rfl (by decide) (by omega) (.slice Ao11 x3_1.length co11) x3_1 ((rd_T46 l0 x4_1).f1) [.int .i64 ((rd_T46 l0 x4_1).f1)] (fun _=>True) (fun _=>False) rfl rfl ?aP (fun _ hk=>hk.elim) ?aF ?aO ?aB ?aS ?aL ?_;(case aP=>exact rfl);(case aB=>exact qz4);(case aF=>exact (fun _ _=>trivial));(case aO=>exact qz42);(case aS=>exact (below_size qz4));(case aL=>have:=LMc10.out;omega);intro v177 w12 ho hb hg hat;rw [← Ny176.out] at ho;have n0_:=Aside0.mk (hb);have n1_:=Aside0.mk (ho);clear HB HO_3;have HB:=n0_;have HO178:=n1_;clear n0_ n1_ ho hb hg hat))
        go_roundg k1
        case measure=>have:=HK1.out;omega
        case rel=>exact ⟨(y176),(wrap64 (x4_1+1)),qz9,H',⟨by have:=HK1.out;omega⟩,⟨by (with_reducible repeat (first|apply Kd.R_alloc|apply Kd.R_drewN|apply Kd.R_drew));exact HO178.out⟩,⟨qz5⟩⟩
       ·rw [if_neg c10] at H
        exact absurd H (by simp)
     ·rw [if_neg c6] at H
      have c6b0:(((rd_T46 l0 x4_1).f0) == 1)=false:=beq_eq_false_iff_ne.mpr c6
      have c6b1:(((rd_T46 l0 x4_1).f0) != 1)=true:=bne_iff_ne.mpr c6
      have H':=Aside0.mk H
      clear H
      have p172:0≤(x4_1:Int):=of_decide_eq_true qz6
      have q172:x4_1<(l0.length:Int):=of_decide_eq_true qz6
      obtain ⟨ad172,e172,hx172_0,hx172_1,hx172_2⟩:=at_T46 HR0.out x4_1 p172 q172
      cases e172
      replace hx172_0:=(HB.out.cell (World.block_lt_of_cell? w _ hx172_0)).trans hx172_0
      replace hx172_1:=(HB.out.cell (World.block_lt_of_cell? w _ hx172_1)).trans hx172_1
      replace hx172_2:=(HB.out.cell (World.block_lt_of_cell? w _ hx172_2)).trans hx172_2
      replace p172:=eq_true p172
      replace q172:=eq_true q172
      go_wp2
      go_roundg k1
      case measure=>have:=HK1.out;omega
      case rel=>exact ⟨(x3_1),(wrap64 (x4_1+1)),qz9,H',⟨by have:=HK1.out;omega⟩,⟨qz42⟩,⟨qz5⟩⟩
    ·rw [if_neg c5] at H
     exact absurd H (by simp)
   ·rw [if_neg c4] at H
    have c4b0:decide (x4_1<(l0.length:Int))=false:=decide_eq_false c4
    clear c4
    obtain rfl:=Option.some.inj H
    go_wp2
    go_ret
    exact ⟨_,qz7,qz42,qz5⟩

/-! ### spec_l2Get: function 92 -/
def spec_l2Get.l0:Nat→List (S30)→Int→Int→Option ((List (S46)))
 | 0,_,_,_=>none
 | k+1,x0,x1,x5=>if x5<(x0.length:Int) then (if 0≤x5 then (if ((rd_T30 x0 x5).f0)=x1 then (some ((rd_T30 x0 x5).f1)) else (spec_l2Get.l0 k x0 x1 (wrap64 (x5+1)))) else (none)) else (some (([]:List (S46))))
def spec_l2Get.f (k:Nat) (l0:List (S30)) (a1:Int):Option ((List (S46))):=spec_l2Get.l0 k l0 a1 0
set_option maxHeartbeats 8000000 in
set_option maxRecDepth 100000 in
theorem spec_l2Get.calls (k:Nat) (P0_:Nat→Prop) (A0:Option Addr) (c0:Nat) (l0:List (S30)) (a1:Int) (r:List (S46)) (w:World) (hs0:Kd.V k30 30 w w.heap.size (fun k_=>P0_ k_) (.slice A0 l0.length c0) l0) (h:spec_l2Get.f k l0 a1=some r) :
  Calls Tryd.prog 92 #[.slice A0 l0.length c0,.int .i64 a1] w fun e w'=>∃ v0_:Value,e = .returned (v0_)∧Kd.V k46 46 w' w.heap.size (fun k_=>(P0_ k_∨w.heap.size≤k_)) v0_ r∧Below w.heap.size w w':=by
 have HO0:=Aside0.mk (show Kd.V k30 30 w w.heap.size (fun k_=>(P0_ k_∨w.heap.size≤k_)) (.slice A0 l0.length c0) l0 from Kd.V_mono hs0 (fun k_ hk=>.inl hk))
 have HB:=Aside0.mk (Below.refl w.heap.size w)
 have H:(spec_l2Get.l0 k l0 a1 0)=some r:=h
 clear h
 have H':=Aside0.mk H
 clear H
 go_enter Tryd.func92,Tryd.ntmps92
 go_wp2
 go_loopg [5] k (fun kq v5 w'=>∃ (x5_1:Int),v5 = .int .i64 x5_1∧Aside0 (spec_l2Get.l0 kq l0 a1 x5_1=some r)∧Aside0 (kq≤k)∧Aside0 (Kd.V k30 30 w' w.heap.size (fun k_=>(P0_ k_∨w.heap.size≤k_)) (.slice A0 l0.length c0) l0)∧Aside0 (Below w.heap.size w w'))
 case atStart=>exact ⟨(0),qz9,H',⟨Nat.le_refl _⟩,⟨qz69⟩,⟨qz5⟩⟩
 case round=>
  clear H'
  try clear p2
  obtain ⟨x5_1,rfl,HA,HK1,HO_0,HB⟩:=hrel
  cases gk with
  | zero=>exact absurd HA.out (by simp [spec_l2Get.l0])
  | succ k1=>
   have H:=HA.out
   clear HA
   simp only [spec_l2Get.l0] at H
   by_cases c3:x5_1<(l0.length:Int)
   ·rw [if_pos c3] at H
    have c3b0:decide (x5_1<(l0.length:Int))=true:=decide_eq_true c3
    clear c3
    by_cases c4:0≤x5_1
    ·rw [if_pos c4] at H
     have c4b0:decide (0≤x5_1)=true:=decide_eq_true c4
     clear c4
     by_cases c5:((rd_T30 l0 x5_1).f0)=a1
     ·rw [if_pos c5] at H
      have c5b0:(((rd_T30 l0 x5_1).f0) == a1)=true:=beq_iff_eq.mpr c5
      have c5b1:(((rd_T30 l0 x5_1).f0) != a1)=false:=bne_eq_false_iff_eq.mpr c5
      clear c5
      obtain rfl:=Option.some.inj H
      have p182:0≤(x5_1:Int):=of_decide_eq_true qz6
      have q182:x5_1<(l0.length:Int):=of_decide_eq_true qz6
      obtain ⟨ad182,A182_1,c182_1,e182,hx182_0,hx182_1,hl182_1,hi182_1⟩:=at_T30 (Kd.V_reads' HO_0.out).2.2 x5_1 p182 q182
      cases e182
      obtain ⟨ce182,hce182,hMe182,hcc182⟩:=Kd.V_get HO_0.out z30 x5_1 p182 (by first|exact q182|exact of_decide_eq_true qz6|(have e_:=(Kd.V_reads' HO_0.out).1;omega))
      obtain ⟨ua182_1,uc182_1,rfl,ul182_1,ge182_1⟩:=k30_openF hMe182
      have hv182_1:=hcc182 1 _ rfl
      rw [add_field _ _ 1 (by omega)] at hv182_1
      replace hv182_1:=Option.some.inj (hv182_1.symm.trans hx182_1)
      injection hv182_1 with hva_ hvn_ hvc_
      rw [hva_] at ge182_1
      rw [hvc_] at ul182_1
      have HL182_1:=Aside0.mk (show Kd.V k46 46 _ w.heap.size _ _ ((rd_T30 l0 x5_1).f1) from Kd.V_mk ul182_1 ge182_1)
      clear hva_ hvn_ hvc_ ge182_1 ul182_1 hcc182 hce182
      have HR182_1:=Aside0.mk hi182_1
      have HC182_1:=Aside0.mk hl182_1
      clear hi182_1 hl182_1
      replace p182:=eq_true p182
      replace q182:=eq_true q182
      have p183:0≤(x5_1:Int):=of_decide_eq_true qz6
      have q183:x5_1<(l0.length:Int):=of_decide_eq_true qz6
      obtain ⟨ad183,A183_1,c183_1,e183,hx183_0,hx183_1,hl183_1,hi183_1⟩:=at_T30 (Kd.V_reads' HO_0.out).2.2 x5_1 p183 q183
      obtain rfl:ad182=ad183:=(by injection e183)
      obtain ⟨ce183,hce183,hMe183,hcc183⟩:=Kd.V_get HO_0.out z30 x5_1 p183 (by first|exact q183|exact of_decide_eq_true qz6|(have e_:=(Kd.V_reads' HO_0.out).1;omega))
      obtain ⟨ua183_1,uc183_1,rfl,ul183_1,ge183_1⟩:=k30_openF hMe183
      have hv183_1:=hcc183 1 _ rfl
      rw [add_field _ _ 1 (by omega)] at hv183_1
      replace hv183_1:=Option.some.inj (hv183_1.symm.trans hx183_1)
      injection hv183_1 with hva_ hvn_ hvc_
      rw [hva_] at ge183_1
      rw [hvc_] at ul183_1
      have HL183_1:=Aside0.mk (show Kd.V k46 46 _ w.heap.size _ _ ((rd_T30 l0 x5_1).f1) from Kd.V_mk ul183_1 ge183_1)
      clear hva_ hvn_ hvc_ ge183_1 ul183_1 hcc183 hce183
      have HR183_1:=Aside0.mk hi183_1
      have HC183_1:=Aside0.mk hl183_1
      clear hi183_1 hl183_1
      replace p183:=eq_true p183
      replace q183:=eq_true q183
      have ea_:=Option.some.inj (hx182_1.symm.trans hx183_1)
      injection ea_ with ea_ en_ ec_
      subst ea_
      subst ec_
      clear en_
      go_wp2
      go_ret
      exact ⟨_,qz7,by (with_reducible repeat (first|apply Kd.V_alloc|apply Kd.V_drewN|apply Kd.V_drew));exact HL183_1.out,qz5⟩
     ·rw [if_neg c5] at H
      have c5b0:(((rd_T30 l0 x5_1).f0) == a1)=false:=beq_eq_false_iff_ne.mpr c5
      have c5b1:(((rd_T30 l0 x5_1).f0) != a1)=true:=bne_iff_ne.mpr c5
      have H':=Aside0.mk H
      clear H
      have p182:0≤(x5_1:Int):=of_decide_eq_true qz6
      have q182:x5_1<(l0.length:Int):=of_decide_eq_true qz6
      obtain ⟨ad182,A182_1,c182_1,e182,hx182_0,hx182_1,hl182_1,hi182_1⟩:=at_T30 (Kd.V_reads' HO_0.out).2.2 x5_1 p182 q182
      cases e182
      obtain ⟨ce182,hce182,hMe182,hcc182⟩:=Kd.V_get HO_0.out z30 x5_1 p182 (by first|exact q182|exact of_decide_eq_true qz6|(have e_:=(Kd.V_reads' HO_0.out).1;omega))
      obtain ⟨ua182_1,uc182_1,rfl,ul182_1,ge182_1⟩:=k30_openF hMe182
      have hv182_1:=hcc182 1 _ rfl
      rw [add_field _ _ 1 (by omega)] at hv182_1
      replace hv182_1:=Option.some.inj (hv182_1.symm.trans hx182_1)
      injection hv182_1 with hva_ hvn_ hvc_
      rw [hva_] at ge182_1
      rw [hvc_] at ul182_1
      have HL182_1:=Aside0.mk (show Kd.V k46 46 _ w.heap.size _ _ ((rd_T30 l0 x5_1).f1) from Kd.V_mk ul182_1 ge182_1)
      clear hva_ hvn_ hvc_ ge182_1 ul182_1 hcc182 hce182
      have HR182_1:=Aside0.mk hi182_1
      have HC182_1:=Aside0.mk hl182_1
      clear hi182_1 hl182_1
      replace p182:=eq_true p182
      replace q182:=eq_true q182
      go_wp2
      go_roundg k1
      case measure=>have:=HK1.out;omega
      case rel=>exact ⟨(wrap64 (x5_1+1)),qz9,H',⟨by have:=HK1.out;omega⟩,⟨qz55⟩,⟨qz5⟩⟩
    ·rw [if_neg c4] at H
     exact absurd H (by simp)
   ·rw [if_neg c3] at H
    have c3b0:decide (x5_1<(l0.length:Int))=false:=decide_eq_false c3
    clear c3
    obtain ⟨y179,hy179⟩:∃ y_:List (S46),y_=(([]:List (S46))):=⟨_,rfl⟩
    replace H:(some y179)=some r:=by first|(rw [hy179];exact H)|exact H
    have Ny179:=Aside0.mk hy179
    clear hy179
    obtain rfl:=Option.some.inj H
    go_wp2_with (first|((with_reducible refine gate_dst (N:=24) rfl ?_);refine Kd.R_lit k46 _ 46 ?hg (N:=24) ?hd (xs:=([]:List (S46))) (inner:=[]) (ok:=fun _=>True) (okp:=fun _=>True) ?hr ?hp (fun _ hk=>hk) trivial (Below.refl _ _) (Nat.le_refl _) (by simp) ?_;(case hd=>rfl);(case hg=>rfl);(case hr=>first|(go_simp;done)|(go_simp;rfl));(case hp=>exact (Reps.none _ _));intro v180 w6 ho7 hb hg_ hnew_;clear hg_ hnew_;(first|rw [← Ny179.out] at ho7|(simp only [Int.reduceToNat] at ho7;rw [← Ny179.out] at ho7));have n0_:=Aside0.mk (Kd.V_elder' qz55 (Kd.R_base ho7) hb);have n1_:=Aside0.mk (Kd.R_lower (Kd.R_newM (M:=fun k_=>(w.heap.size≤k_)) ho7 (below_size qz4) (fun k_ h_=>h_)) (below_size qz4));have n2_:=Aside0.mk (below_step qz4 hb);clear HO_0 HB;have HO_0:=n0_;have HO181:=n1_;have HB:=n2_;clear n0_ n1_ n2_ hb ho7))
    go_ret
    exact ⟨_,qz7,Kd.V_mono (Kd.R_V (by (with_reducible repeat (first|apply Kd.R_alloc|apply Kd.R_drewN|apply Kd.R_drew));exact Kd.R_mono HO181.out (fun _ hk=>hk.1))) (fun k_ hk=>by first|exact ⟨(.inr (hk.1)),hk.2⟩|exact (.inr (hk))),qz5⟩

/-! ### spec_l2Leads: function 59 -/
mutual
def spec_l2Leads.l0:Nat→List (S30)→List Int→Int→Option (List Int)
 | 0,_,_,_=>none
 | k+1,x0,x5,x6=>if x6<(x5.length:Int) then (if 0≤x6 then ((spec_l2Get.f k x0 (rd x5 x6)).bind fun t188=>((spec_TrmFree.f k t188).bind fun t191=>(spec_l2Leads.l1 k x0 x5 x6 t191 0))) else (none)) else (some x5)
def spec_l2Leads.l1:Nat→List (S30)→List Int→Int→List Int→Int→Option (List Int)
 | 0,_,_,_,_,_=>none
 | k+1,x0,x5,x6,x7,x8=>if x8<(x7.length:Int) then (if 0≤x8 then ((spec_l1Has.f k x5 (rd x7 x8)).bind fun t195=>(if t195=true then (spec_l2Leads.l1 k x0 x5 x6 x7 (wrap64 (x8+1))) else (if x5.length<17592186044416 then (spec_l2Leads.l1 k x0 (x5++[rd x7 x8]) x6 x7 (wrap64 (x8+1))) else (none)))) else (none)) else (spec_l2Leads.l0 k x0 x5 (wrap64 (x6+1)))
end
def spec_l2Leads.f (k:Nat) (l0:List (S30)) (l1:List (S46)):Option (List Int):=(spec_TrmFree.f k l1).bind fun t184=>(spec_l2Leads.l0 k l0 t184 0)
set_option maxHeartbeats 8000000 in
set_option maxRecDepth 100000 in
theorem spec_l2Leads.calls (k:Nat) (A0:Option Addr) (c0:Nat) (l0:List (S30)) (A1:Option Addr) (c1:Nat) (l1:List (S46)) (r:List Int) (w:World) (hr0:Kd.C k30 w A0 l0.length l0) (hc0:l0.length≤c0) (hr1:Kd.C k46 w A1 l1.length l1) (hc1:l1.length≤c1) (h:spec_l2Leads.f k l0 l1=some r) :
  Calls Tryd.prog 59 #[.slice A0 l0.length c0,.slice A1 l1.length c1] w fun e w'=>∃ v0_:Value,e = .returned (v0_)∧Kd.R (Kd.int .i64) 3 w' w.heap.size (fun _=>True) v0_ r∧Below w.heap.size w w':=by
 have HR0:=Aside0.mk hr0
 have HC0:=Aside0.mk hc0
 clear hr0 hc0
 have HR1:=Aside0.mk hr1
 have HC1:=Aside0.mk hc1
 clear hr1 hc1
 have HB:=Aside0.mk (Below.refl w.heap.size w)
 have H:((spec_TrmFree.f k l1).bind fun t184=>(spec_l2Leads.l0 k l0 t184 0))=some r:=h
 clear h
 replace H:=Option.bind_eq_some_iff.mp H
 obtain ⟨t184,A30,H⟩:=H
 try dsimp only at H
 have A3:=Aside0.mk A30
 clear A30
 have H':=Aside0.mk H
 clear H
 go_enter Tryd.func59,Tryd.ntmps59
 go_wp2_with (first|(go_at_call 48;(with_reducible refine (spec_TrmFree.calls k _ _ l1 t184 _ ?side1 ?side2 A3.out).mono ?_);(case side1=>repeat (first|exact HR1.out|(with_reducible refine Kd.C_alloc ?_ _)|(with_reducible refine Kd.C_drewN ?_ _)|(with_reducible refine Kd.C_drew ?_)));(case side2=>exact HC1.out);rintro e w4 ⟨v185,rfl,ho0,hb⟩;have n0_:=Aside0.mk (Kd.R_lower ho0 (below_size qz4));have n1_:=Aside0.mk (below_step qz4 hb);clear HB;have HO186:=n0_;have HB:=n1_;clear n0_ n1_;(try clear hb);(try clear hb2);(try clear hk);(try clear hi);(try clear ho0)))
 go_loopg [5,6] k (fun kq v5 v6 w'=>∃ (x5_1:List Int) (x6_1:Int),v6 = .int .i64 x6_1∧Aside0 (spec_l2Leads.l0 kq l0 x5_1 x6_1=some r)∧Aside0 (kq≤k)∧Aside0 (Kd.R (Kd.int .i64) 3 w' w.heap.size (fun _=>True) v5 x5_1)∧Aside0 (Below w.heap.size w w'))
 case atStart=>exact ⟨(t184),(0),qz9,H',⟨Nat.le_refl _⟩,⟨by (with_reducible repeat (first|apply Kd.R_alloc|apply Kd.R_drewN|apply Kd.R_drew));exact HO186.out⟩,⟨qz5⟩⟩
 case round=>
  clear H'
  try clear c1
  try clear p2
  try clear c4
  obtain ⟨x5_1,x6_1,rfl,HA,HK1,HO_5,HB⟩:=hrel
  cases gk with
  | zero=>exact absurd HA.out (by simp [spec_l2Leads.l0])
  | succ k1=>
   have H:=HA.out
   clear HA
   simp only [spec_l2Leads.l0] at H
   by_cases c5:x6_1<(x5_1.length:Int)
   ·rw [if_pos c5] at H
    have c5b0:decide (x6_1<(x5_1.length:Int))=true:=decide_eq_true c5
    clear c5
    by_cases c6:0≤x6_1
    ·rw [if_pos c6] at H
     have c6b0:decide (0≤x6_1)=true:=decide_eq_true c6
     clear c6
     replace H:=Option.bind_eq_some_iff.mp H
     obtain ⟨t188,A70,H⟩:=H
     try dsimp only at H
     have A7:=Aside0.mk A70
     clear A70
     replace H:=Option.bind_eq_some_iff.mp H
     obtain ⟨t191,A80,H⟩:=H
     try dsimp only at H
     have A8:=Aside0.mk A80
     clear A80
     have H':=Aside0.mk H
     clear H
     obtain ⟨Ao9,co9,eo9⟩:=Kd.R_slice HO_5.out
     subst eo9
     have p187:0≤(x6_1:Int):=of_decide_eq_true qz6
     have q187:x6_1<(x5_1.length:Int):=of_decide_eq_true qz6
     obtain ⟨ad187,e187,hx187_0⟩:=Kd.at_int (Kd.R_reads' HO_5.out).2.2 x6_1 p187 q187
     cases e187
     replace p187:=eq_true p187
     replace q187:=eq_true q187
     go_wp2_with (first|(go_at_call 92;(with_reducible refine (spec_l2Get.calls k1 (fun k_=>k_<w.heap.size) _ _ l0 (rd x5_1 x6_1) t188 _ ?side1 A7.out).mono ?_);(case side1=>exact Kd.V_mk HC0.out (Kd.F_below (Kd.C_F k30_heap HR0.out) qz4));rintro e w10 ⟨v189,rfl,ho0,hb⟩;have n0_:=Aside0.mk (Kd.R_below qz38 hb);have n1_:=Aside0.mk (Kd.V_lower (Kd.V_mono (ok':=fun k_=>some k_≠(.slice (some ad187) x5_1.length co9:Value).ownBlock) ho0 (fun k_ hk_=>Or.elim hk_ (fun hs_=>fun e_=>Nat.not_le.2 hs_ (Kd.R_base HO_5.out k_ e_.symm)) (fun hn_=>(Kd.fresh' (Kd.R_lt qz38) k_ hn_)))) (below_size qz4));have n2_:=Aside0.mk (below_step qz4 hb);clear HO_5 HB;have HO_5:=n0_;have HO190:=n1_;have HB:=n2_;clear n0_ n1_ n2_;(try clear hb);(try clear hb2);(try clear hk);(try clear hi);(try clear ho0);obtain ⟨Ao11,co11,eo11⟩:=Kd.V_slice HO190.out;subst eo11)|(go_at_call 48;(with_reducible refine (spec_TrmFree.calls k1 _ _ t188 t191 _ ?side1 ?side2 A8.out).mono ?_);(case side1=>repeat (first|exact (Kd.V_reads' HO190.out).2.2|(with_reducible refine Kd.C_alloc ?_ _)|(with_reducible refine Kd.C_drewN ?_ _)|(with_reducible refine Kd.C_drew ?_)));(case side2=>exact (Kd.V_reads' HO190.out).2.1);rintro e w12 ⟨v192,rfl,ho0,hb⟩;have n0_:=Aside0.mk (Kd.R_elder' qz38 (Kd.R_base ho0) hb);have n1_:=Aside0.mk (Kd.V_elder' (by (with_reducible repeat (first|apply Kd.V_alloc|apply Kd.V_drewN|apply Kd.V_drew));exact HO190.out) (Kd.R_base ho0) hb);have n2_:=Aside0.mk (Kd.R_lower (Kd.R_new' ho0 (Kd.R_lt qz38)) (below_size qz4));have n3_:=Aside0.mk (below_step qz4 hb);clear HO_5 HO190 HB;have HO_5:=n0_;have HO190:=n1_;have HO193:=n2_;have HB:=n3_;clear n0_ n1_ n2_ n3_;(try clear hb);(try clear hb2);(try clear hk);(try clear hi);(try clear ho0)))
     go_loopg [5,8] k1 (fun kq v5 v8 w'=>∃ (x5_2:List Int) (x8_2:Int),v8 = .int .i64 x8_2∧Aside0 (spec_l2Leads.l1 kq l0 x5_2 x6_1 t191 x8_2=some r)∧Aside0 (kq≤k1)∧Aside0 (Kd.R (Kd.int .i64) 3 w' w.heap.size (fun k_=>some k_≠(v192:Value).ownBlock) v5 x5_2)∧Aside0 (Kd.R (Kd.int .i64) 3 w' w.heap.size (fun k_=>some k_≠(v5:Value).ownBlock) v192 t191)∧Aside0 (Below w.heap.size w w'))
     case atStart=>exact ⟨(x5_1),(0),qz9,H',⟨Nat.le_refl _⟩,⟨by (with_reducible repeat (first|apply Kd.R_alloc|apply Kd.R_drewN|apply Kd.R_drew));exact Kd.R_mono HO_5.out (fun _ hk=>hk.2)⟩,⟨by (with_reducible repeat (first|apply Kd.R_alloc|apply Kd.R_drewN|apply Kd.R_drew));exact Kd.R_mono HO193.out (fun _ hk=>hk.2)⟩,⟨qz5⟩⟩
     case round=>
      clear H'
      try clear c1
      try clear p1
      try clear q1
      try clear hx1
      try clear p2
      try clear c4
      try clear c5
      try clear c5b0
      try clear c6
      try clear c6b0
      try clear c9
      try clear hx187_0
      try clear p187
      try clear p2
      try clear q187
      obtain ⟨x5_2,x8_2,rfl,HA,HK2,HO_5,HO_7,HB⟩:=hrel
      cases gk with
      | zero=>exact absurd HA.out (by simp [spec_l2Leads.l1])
      | succ k2=>
       have H:=HA.out
       clear HA
       simp only [spec_l2Leads.l1] at H
       by_cases c13:x8_2<(t191.length:Int)
       ·rw [if_pos c13] at H
        have c13b0:decide (x8_2<(t191.length:Int))=true:=decide_eq_true c13
        clear c13
        by_cases c14:0≤x8_2
        ·rw [if_pos c14] at H
         have c14b0:decide (0≤x8_2)=true:=decide_eq_true c14
         clear c14
         replace H:=Option.bind_eq_some_iff.mp H
         obtain ⟨t195,A150,H⟩:=H
         try dsimp only at H
         have A15:=Aside0.mk A150
         clear A150
         by_cases c16:t195=true
         ·subst c16
          have H1:(spec_l2Leads.l1 k2 l0 x5_2 x6_1 t191 (wrap64 (x8_2+1)))=some r:=qz46
          clear H
          have H:=H1
          clear H1
          have H':=Aside0.mk H
          clear H
          obtain ⟨Ao17,co17,eo17⟩:=Kd.R_slice HO_7.out
          subst eo17
          have p194:0≤(x8_2:Int):=of_decide_eq_true qz6
          have q194:x8_2<(t191.length:Int):=of_decide_eq_true qz6
          obtain ⟨ad194,e194,hx194_0⟩:=Kd.at_int (Kd.R_reads' HO_7.out).2.2 x8_2 p194 q194
          cases e194
          replace p194:=eq_true p194
          replace q194:=eq_true q194
          obtain ⟨Ao18,co18,eo18⟩:=Kd.R_slice HO_5.out
          subst eo18
          go_wp2_with (first|(go_at_call 58;(with_reducible refine (spec_l1Has.calls k2 _ _ x5_2 (rd t191 x8_2) true _ ?side1 ?side2 A15.out).mono ?_);(case side1=>exact qz74);(case side2=>exact (Kd.R_reads' HO_5.out).2.1);rintro e w' ⟨rfl,⟨nd,rfl⟩⟩))
          go_roundg k2
          case measure=>have:=HK1.out;have:=HK2.out;omega
          case rel=>exact ⟨(x5_2),(wrap64 (x8_2+1)),qz9,H',⟨by have:=HK1.out;have:=HK2.out;omega⟩,⟨qz38⟩,⟨qz30⟩,⟨qz5⟩⟩
         ·replace c16:=Bool.eq_false_iff.mpr c16
          subst c16
          have H1:(if x5_2.length<17592186044416 then (spec_l2Leads.l1 k2 l0 (x5_2++[rd t191 x8_2]) x6_1 t191 (wrap64 (x8_2+1))) else (none))=some r:=qz27
          clear H
          have H:=H1
          clear H1
          by_cases c19:x5_2.length<17592186044416
          ·rw [if_pos c19] at H
           have LMc19:=Aside0.mk c19
           clear c19
           obtain ⟨y197,hy197⟩:∃ y_:List Int,y_=(x5_2++[rd t191 x8_2]):=⟨_,rfl⟩
           replace H:(spec_l2Leads.l1 k2 l0 y197 x6_1 t191 (wrap64 (x8_2+1)))=some r:=by first|(rw [hy197];exact H)|exact H
           have Ny197:=Aside0.mk hy197
           clear hy197
           have H':=Aside0.mk H
           clear H
           obtain ⟨Ao20,co20,eo20⟩:=Kd.R_slice HO_7.out
           subst eo20
           have p194:0≤(x8_2:Int):=of_decide_eq_true qz6
           have q194:x8_2<(t191.length:Int):=of_decide_eq_true qz6
           obtain ⟨ad194,e194,hx194_0⟩:=Kd.at_int (Kd.R_reads' HO_7.out).2.2 x8_2 p194 q194
           cases e194
           replace p194:=eq_true p194
           replace q194:=eq_true q194
           obtain ⟨Ao21,co21,eo21⟩:=Kd.R_slice HO_5.out
           subst eo21
           go_wp2_with (first|(go_at_call 58;(with_reducible refine (spec_l1Has.calls k2 _ _ x5_2 (rd t191 x8_2) false _ ?side1 ?side2 A15.out).mono ?_);(case side1=>exact qz74);(case side2=>exact (Kd.R_reads' HO_5.out).2.1);rintro e w' ⟨rfl,⟨nd,rfl⟩⟩;have p196:0≤(x8_2:Int):=of_decide_eq_true qz6;have q196:x8_2<(t191.length:Int):=of_decide_eq_true qz6;obtain ⟨ad196,e196,hx196_0⟩:=Kd.at_int (Kd.R_reads' HO_7.out).2.2 x8_2 p196 q196;obtain rfl:ad194=ad196:=(by injection e196);replace p196:=eq_true p196;replace q196:=eq_true q196)|((with_reducible refine gate_builtin (b:=.append) (xs:=#[.tmp 37,.tmp 42]) rfl ?_);at_builtin;refine Kd.R_append (Kd.int .i64) (w0:=w) w.heap.size rfl (.tmp 37) (.tmp 42) 43 3 (.int .i64 0) 8 rfl Tryd.underlying43 info3 rfl (by decide) (by omega) (.slice Ao21 x5_2.length co21) x5_2 (rd t191 x8_2) [.int .i64 (rd t191 x8_2)] (fun k_=>some k_≠(.slice (some ad194) t191.length co20:Value).ownBlock) (fun _=>False) rfl rfl ?aP (fun _ hk=>hk.elim) ?aF ?aO ?aB ?aS ?aL ?_;(case aP=>exact rfl);(case aB=>exact qz4);(case aF=>exact (fun k_ hk=>Kd.fresh' (Kd.R_lt qz30) k_ hk));(case aO=>exact qz38);(case aS=>exact (below_size qz4));(case aL=>have:=LMc19.out;omega);intro v198 w22 ho hb hg hat;rw [← Ny197.out] at ho;have n0_:=Aside0.mk (Kd.R_after (ok:=(fun _=>True)) (by (with_reducible repeat (first|apply Kd.R_alloc|apply Kd.R_drewN|apply Kd.R_drew));exact Kd.R_mono HO_7.out (fun _ hk=>⟨trivial,hk⟩)) hg hat);have n1_:=Aside0.mk (hb);have n2_:=Aside0.mk (ho);clear HO_7 HB HO_5;have HO_7:=n0_;have HB:=n1_;have HO199:=n2_;clear n0_ n1_ n2_ ho hb hg hat))
           go_roundg k2
           case measure=>have:=HK1.out;have:=HK2.out;omega
           case rel=>exact ⟨(y197),(wrap64 (x8_2+1)),qz9,H',⟨by have:=HK1.out;have:=HK2.out;omega⟩,⟨by (with_reducible repeat (first|apply Kd.R_alloc|apply Kd.R_drewN|apply Kd.R_drew));exact HO199.out⟩,⟨qz85⟩,⟨qz5⟩⟩
          ·rw [if_neg c19] at H
           exact absurd H (by simp)
        ·rw [if_neg c14] at H
         exact absurd H (by simp)
       ·rw [if_neg c13] at H
        have c13b0:decide (x8_2<(t191.length:Int))=false:=decide_eq_false c13
        clear c13
        have H':=Aside0.mk H
        clear H
        obtain ⟨Ao23,co23,eo23⟩:=Kd.R_slice HO_7.out
        subst eo23
        go_wp2
        go_roundg k2
        case measure=>have:=HK1.out;have:=HK2.out;omega
        case rel=>exact ⟨(x5_2),(wrap64 (x6_1+1)),qz9,H',⟨by have:=HK1.out;have:=HK2.out;omega⟩,⟨by (with_reducible repeat (first|apply Kd.R_alloc|apply Kd.R_drewN|apply Kd.R_drew));exact Kd.R_mono HO_5.out (fun _ hk=>trivial)⟩,⟨qz5⟩⟩
    ·rw [if_neg c6] at H
     exact absurd H (by simp)
   ·rw [if_neg c5] at H
    have c5b0:decide (x6_1<(x5_1.length:Int))=false:=decide_eq_false c5
    clear c5
    obtain rfl:=Option.some.inj H
    obtain ⟨Ao24,co24,eo24⟩:=Kd.R_slice HO_5.out
    subst eo24
    go_wp2
    go_ret
    exact ⟨_,qz7,qz38,qz5⟩

end Go.Proofs.YtlaicnoikeieeaaDoor.P
