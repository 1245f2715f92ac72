/- Contracts of functions of the program: each as a Lean function, and that its call does what that says; printed by cprint.py (this session) over print.py of the kit. Conditions: the hypotheses of each theorem. -/
import Derived.Test.YtlaicnoikeieeaaDoorVZ
import Derived.Test.YtlaicnoikeieeaaDoorP0
import Derived.Test.YtlaicnoikeieeaaDoorP8
namespace Go.Proofs.YtlaicnoikeieeaaDoor.P
open Go.RowKit Go.Proofs.YtlaicnoikeieeaaDoorW.PrintWords Go.Proofs.YtlaicnoikeieeaaDoorW.PrintLast Go.Proofs.YtlaicnoikeieeaaDoorW.PrintMore
attribute [local go_sem] max2_int min2_int max_two min_two max_three min_three max_four min_four   -- for this text's walks alone
set_option linter.unusedVariables false
set_option linter.unusedSimpArgs false
def spec_TrmFree.l0:Nat→List (S46)→List Int→Int→Option (List Int)
 | 0,_,_,_=>none
 | k+1,x0,x3,x4=>if x4<(x0.length:Int) then (if 0≤x4 then (if ((rd_T46 x0 x4).f0)=1 then ((spec_l1Has.f k x3 ((rd_T46 x0 x4).f1)).bind fun t182=>(if t182=true then (spec_TrmFree.l0 k x0 x3 (wrap64 (x4+1))) else (if x3.length<17592186044416 then (spec_TrmFree.l0 k x0 (x3++[(rd_T46 x0 x4).f1]) (wrap64 (x4+1))) else (none)))) else (spec_TrmFree.l0 k x0 x3 (wrap64 (x4+1)))) else (none)) else (some x3)
def spec_TrmFree.f (k:Nat) (l0:List (S46)):Option (List Int):=spec_TrmFree.l0 k l0 (([]:List Int)) 0
set_option maxHeartbeats 8000000 in
set_option maxRecDepth 100000 in
theorem spec_TrmFree.calls (k:Nat) (A0:Option Addr) (c0:Nat) (l0:List (S46)) (r:List Int) (w:World) (hr0:Kd.C k46 w A0 l0.length l0) (hc0:l0.length≤c0) (h:spec_TrmFree.f k l0=some r) :
  Calls Tryd.prog 48 #[.slice A0 l0.length c0] w fun e w'=>∃ v0_:Value,e = .returned (v0_)∧Kd.R (Kd.int .i64) 3 w' w.heap.size (fun _=>True) v0_ r∧Below w.heap.size w w':=by
 have HR0:=Aside0.mk hr0
 have HC0:=Aside0.mk hc0
 clear hr0 hc0
 have HB:=Aside0.mk (Below.refl w.heap.size w)
 have H:(spec_TrmFree.l0 k l0 (([]:List Int)) 0)=some r:=h
 clear h
 obtain ⟨y177,hy177⟩:∃ y_:List Int,y_=(([]:List Int)):=⟨_,rfl⟩
 replace H:(spec_TrmFree.l0 k l0 y177 0)=some r:=by first|(rw [hy177];exact H)|exact H
 have Ny177:=Aside0.mk hy177
 clear hy177
 have H':=Aside0.mk H
 clear H
 go_enter Tryd.func48,Tryd.ntmps48
 go_wp2_with (first|((with_reducible refine gate_dst (N:=5) rfl ?_);refine Kd.R_lit (Kd.int .i64) _ 3 ?hg (N:=5) ?hd (xs:=([]:List Int)) (inner:=[]) (ok:=fun _=>True) (okp:=fun _=>True) ?hr ?hp (fun _ hk=>hk) trivial (Below.refl _ _) (Nat.le_refl _) (by simp) ?_;(case hd=>rfl);(case hg=>rfl);(case hr=>first|(go_simp;done)|(go_simp;rfl));(case hp=>exact (Reps.none _ _));intro v178 w2 ho3 hb hg_ hnew_;clear hg_ hnew_;(first|rw [← Ny177.out] at ho3|(simp only [Int.reduceToNat] at ho3;rw [← Ny177.out] at ho3));have n0_:=Aside0.mk (Kd.R_lower ho3 (below_size qz4));have n1_:=Aside0.mk (below_step qz4 hb);clear HB;have HO179:=n0_;have HB:=n1_;clear n0_ n1_ hb ho3))
 go_loopg [3,4] k (fun kq v3 v4 w'=>∃ (x3_1:List Int) (x4_1:Int),v4 = .int .i64 x4_1∧Aside0 (spec_TrmFree.l0 kq l0 x3_1 x4_1=some r)∧Aside0 (kq≤k)∧Aside0 (Kd.R (Kd.int .i64) 3 w' w.heap.size (fun _=>True) v3 x3_1)∧Aside0 (Below w.heap.size w w'))
 case atStart=>exact ⟨(y177),(0),qz9,H',⟨Nat.le_refl _⟩,⟨by (with_reducible repeat (first|apply Kd.R_alloc|apply Kd.R_drewN|apply Kd.R_drew));exact HO179.out⟩,⟨qz5⟩⟩
 case round=>
  clear H'
  try clear p2
  obtain ⟨x3_1,x4_1,rfl,HA,HK1,HO_3,HB⟩:=hrel
  cases gk with
  | zero=>exact absurd HA.out (by simp [spec_TrmFree.l0])
  | succ k1=>
   have H:=HA.out
   clear HA
   simp only [spec_TrmFree.l0] at H
   by_cases c4:x4_1<(l0.length:Int)
   ·rw [if_pos c4] at H
    have c4b0:decide (x4_1<(l0.length:Int))=true:=decide_eq_true c4
    clear c4
    by_cases c5:0≤x4_1
    ·rw [if_pos c5] at H
     have c5b0:decide (0≤x4_1)=true:=decide_eq_true c5
     clear c5
     by_cases c6:((rd_T46 l0 x4_1).f0)=1
     ·rw [if_pos c6] at H
      have c6b0:(((rd_T46 l0 x4_1).f0) == 1)=true:=beq_iff_eq.mpr c6
      have c6b1:(((rd_T46 l0 x4_1).f0) != 1)=false:=bne_eq_false_iff_eq.mpr c6
      clear c6
      replace H:=Option.bind_eq_some_iff.mp H
      obtain ⟨t182,A70,H⟩:=H
      try dsimp only at H
      have A7:=Aside0.mk A70
      clear A70
      by_cases c8:t182=true
      ·subst c8
       have H1:(spec_TrmFree.l0 k1 l0 x3_1 (wrap64 (x4_1+1)))=some r:=qz40
       clear H
       have H:=H1
       clear H1
       have H':=Aside0.mk H
       clear H
       have p180:0≤(x4_1:Int):=of_decide_eq_true qz6
       have q180:x4_1<(l0.length:Int):=of_decide_eq_true qz6
       obtain ⟨ad180,e180,hx180_0,hx180_1,hx180_2⟩:=at_T46 HR0.out x4_1 p180 q180
       cases e180
       replace hx180_0:=(HB.out.cell (World.block_lt_of_cell? w _ hx180_0)).trans hx180_0
       replace hx180_1:=(HB.out.cell (World.block_lt_of_cell? w _ hx180_1)).trans hx180_1
       replace hx180_2:=(HB.out.cell (World.block_lt_of_cell? w _ hx180_2)).trans hx180_2
       replace p180:=eq_true p180
       replace q180:=eq_true q180
       have p181:0≤(x4_1:Int):=of_decide_eq_true qz6
       have q181:x4_1<(l0.length:Int):=of_decide_eq_true qz6
       obtain ⟨ad181,e181,hx181_0,hx181_1,hx181_2⟩:=at_T46 HR0.out x4_1 p181 q181
       obtain rfl:ad180=ad181:=(by injection e181)
       replace hx181_0:=(HB.out.cell (World.block_lt_of_cell? w _ hx181_0)).trans hx181_0
       replace hx181_1:=(HB.out.cell (World.block_lt_of_cell? w _ hx181_1)).trans hx181_1
       replace hx181_2:=(HB.out.cell (World.block_lt_of_cell? w _ hx181_2)).trans hx181_2
       replace p181:=eq_true p181
       replace q181:=eq_true q181
       obtain ⟨Ao9,co9,eo9⟩:=Kd.R_slice HO_3.out
       subst eo9
       go_wp2_with (first|(go_at_call 58;(with_reducible refine (spec_l1Has.calls k1 _ _ x3_1 ((rd_T46 l0 x4_1).f1) true _ ?side1 ?side2 A7.out).mono ?_);(case side1=>exact qz71);(case side2=>exact (Kd.R_reads' HO_3.out).2.1);rintro e w' ⟨rfl,⟨nd,rfl⟩⟩))
       go_roundg k1
       case measure=>have:=HK1.out;omega
       case rel=>exact ⟨(x3_1),(wrap64 (x4_1+1)),qz9,H',⟨by have:=HK1.out;omega⟩,⟨qz43⟩,⟨qz5⟩⟩
      ·replace c8:=Bool.eq_false_iff.mpr c8
       subst c8
       have H1:(if x3_1.length<17592186044416 then (spec_TrmFree.l0 k1 l0 (x3_1++[(rd_T46 l0 x4_1).f1]) (wrap64 (x4_1+1))) else (none))=some r:=qz20
       clear H
       have H:=H1
       clear H1
       by_cases c10:x3_1.length<17592186044416
       ·rw [if_pos c10] at H
        have LMc10:=Aside0.mk c10
        clear c10
        obtain ⟨y184,hy184⟩:∃ y_:List Int,y_=(x3_1++[(rd_T46 l0 x4_1).f1]):=⟨_,rfl⟩
        replace H:(spec_TrmFree.l0 k1 l0 y184 (wrap64 (x4_1+1)))=some r:=by first|(rw [hy184];exact H)|exact H
        have Ny184:=Aside0.mk hy184
        clear hy184
        have H':=Aside0.mk H
        clear H
        have p180:0≤(x4_1:Int):=of_decide_eq_true qz6
        have q180:x4_1<(l0.length:Int):=of_decide_eq_true qz6
        obtain ⟨ad180,e180,hx180_0,hx180_1,hx180_2⟩:=at_T46 HR0.out x4_1 p180 q180
        cases e180
        replace hx180_0:=(HB.out.cell (World.block_lt_of_cell? w _ hx180_0)).trans hx180_0
        replace hx180_1:=(HB.out.cell (World.block_lt_of_cell? w _ hx180_1)).trans hx180_1
        replace hx180_2:=(HB.out.cell (World.block_lt_of_cell? w _ hx180_2)).trans hx180_2
        replace p180:=eq_true p180
        replace q180:=eq_true q180
        have p181:0≤(x4_1:Int):=of_decide_eq_true qz6
        have q181:x4_1<(l0.length:Int):=of_decide_eq_true qz6
        obtain ⟨ad181,e181,hx181_0,hx181_1,hx181_2⟩:=at_T46 HR0.out x4_1 p181 q181
        obtain rfl:ad180=ad181:=(by injection e181)
        replace hx181_0:=(HB.out.cell (World.block_lt_of_cell? w _ hx181_0)).trans hx181_0
        replace hx181_1:=(HB.out.cell (World.block_lt_of_cell? w _ hx181_1)).trans hx181_1
        replace hx181_2:=(HB.out.cell (World.block_lt_of_cell? w _ hx181_2)).trans hx181_2
        replace p181:=eq_true p181
        replace q181:=eq_true q181
        obtain ⟨Ao11,co11,eo11⟩:=Kd.R_slice HO_3.out
        subst eo11
        go_wp2_with (first|(go_at_call 58;(with_reducible refine (spec_l1Has.calls k1 _ _ x3_1 ((rd_T46 l0 x4_1).f1) false _ ?side1 ?side2 A7.out).mono ?_);(case side1=>exact qz71);(case side2=>exact (Kd.R_reads' HO_3.out).2.1);rintro e w' ⟨rfl,⟨nd,rfl⟩⟩;have p183:0≤(x4_1:Int):=of_decide_eq_true qz6;have q183:x4_1<(l0.length:Int):=of_decide_eq_true qz6;obtain ⟨ad183,e183,hx183_0,hx183_1,hx183_2⟩:=at_T46 HR0.out x4_1 p183 q183;obtain rfl:ad180=ad183:=(by injection e183);replace hx183_0:=(HB.out.cell (World.block_lt_of_cell? w _ hx183_0)).trans hx183_0;replace hx183_1:=(HB.out.cell (World.block_lt_of_cell? w _ hx183_1)).trans hx183_1;replace hx183_2:=(HB.out.cell (World.block_lt_of_cell? w _ hx183_2)).trans hx183_2;replace p183:=eq_true p183;replace q183:=eq_true q183)|((with_reducible refine gate_builtin (b:=.append) (xs:=#[.tmp 28,.tmp 34]) rfl ?_);at_builtin;refine Kd.R_append (Kd.int .i64) (w0:=w) w.heap.size rfl (.tmp 28) (.tmp 34) 43 3 (.int .i64 0) 8 rfl Tryd.underlying43 info3 rfl (by decide) (by omega) (.slice Ao11 x3_1.length co11) x3_1 ((rd_T46 l0 x4_1).f1) [.int .i64 ((rd_T46 l0 x4_1).f1)] (fun _=>True) (fun _=>False) rfl rfl ?aP (fun _ hk=>hk.elim) ?aF ?aO ?aB ?aS ?aL ?_;(case aP=>exact rfl);(case aB=>exact qz4);(case aF=>exact (fun _ _=>trivial));(case aO=>exact qz43);(case aS=>exact (below_size qz4));(case aL=>have:=LMc10.out;omega);intro v185 w12 ho hb hg hat;rw [← Ny184.out] at ho;have n0_:=Aside0.mk (hb);have n1_:=Aside0.mk (ho);clear HB HO_3;have HB:=n0_;have HO186:=n1_;clear n0_ n1_ ho hb hg hat))
        go_roundg k1
        case measure=>have:=HK1.out;omega
        case rel=>exact ⟨(y184),(wrap64 (x4_1+1)),qz9,H',⟨by have:=HK1.out;omega⟩,⟨by (with_reducible repeat (first|apply Kd.R_alloc|apply Kd.R_drewN|apply Kd.R_drew));exact HO186.out⟩,⟨qz5⟩⟩
       ·rw [if_neg c10] at H
        exact absurd H (by simp)
     ·rw [if_neg c6] at H
      have c6b0:(((rd_T46 l0 x4_1).f0) == 1)=false:=beq_eq_false_iff_ne.mpr c6
      have c6b1:(((rd_T46 l0 x4_1).f0) != 1)=true:=bne_iff_ne.mpr c6
      have H':=Aside0.mk H
      clear H
      have p180:0≤(x4_1:Int):=of_decide_eq_true qz6
      have q180:x4_1<(l0.length:Int):=of_decide_eq_true qz6
      obtain ⟨ad180,e180,hx180_0,hx180_1,hx180_2⟩:=at_T46 HR0.out x4_1 p180 q180
      cases e180
      replace hx180_0:=(HB.out.cell (World.block_lt_of_cell? w _ hx180_0)).trans hx180_0
      replace hx180_1:=(HB.out.cell (World.block_lt_of_cell? w _ hx180_1)).trans hx180_1
      replace hx180_2:=(HB.out.cell (World.block_lt_of_cell? w _ hx180_2)).trans hx180_2
      replace p180:=eq_true p180
      replace q180:=eq_true q180
      go_wp2
      go_roundg k1
      case measure=>have:=HK1.out;omega
      case rel=>exact ⟨(x3_1),(wrap64 (x4_1+1)),qz9,H',⟨by have:=HK1.out;omega⟩,⟨qz43⟩,⟨qz5⟩⟩
    ·rw [if_neg c5] at H
     exact absurd H (by simp)
   ·rw [if_neg c4] at H
    have c4b0:decide (x4_1<(l0.length:Int))=false:=decide_eq_false c4
    clear c4
    obtain rfl:=Option.some.inj H
    go_wp2
    go_ret
    exact ⟨_,qz7,qz43,qz5⟩
def spec_l2Get.l0:Nat→List (S30)→Int→Int→Option ((List (S46)))
 | 0,_,_,_=>none
 | k+1,x0,x1,x5=>if x5<(x0.length:Int) then (if 0≤x5 then (if ((rd_T30 x0 x5).f0)=x1 then (some ((rd_T30 x0 x5).f1)) else (spec_l2Get.l0 k x0 x1 (wrap64 (x5+1)))) else (none)) else (some (([]:List (S46))))
def spec_l2Get.f (k:Nat) (l0:List (S30)) (a1:Int):Option ((List (S46))):=spec_l2Get.l0 k l0 a1 0
set_option maxHeartbeats 8000000 in
set_option maxRecDepth 100000 in
theorem spec_l2Get.calls (k:Nat) (P0_:Nat→Prop) (A0:Option Addr) (c0:Nat) (l0:List (S30)) (a1:Int) (r:List (S46)) (w:World) (hs0:Kd.V k30 30 w w.heap.size (fun k_=>P0_ k_) (.slice A0 l0.length c0) l0) (h:spec_l2Get.f k l0 a1=some r) :
  Calls Tryd.prog 92 #[.slice A0 l0.length c0,.int .i64 a1] w fun e w'=>∃ v0_:Value,e = .returned (v0_)∧Kd.V k46 46 w' w.heap.size (fun k_=>(P0_ k_∨w.heap.size≤k_)) v0_ r∧Below w.heap.size w w':=by
 have HO0:=Aside0.mk (show Kd.V k30 30 w w.heap.size (fun k_=>(P0_ k_∨w.heap.size≤k_)) (.slice A0 l0.length c0) l0 from Kd.V_mono hs0 (fun k_ hk=>.inl hk))
 have HB:=Aside0.mk (Below.refl w.heap.size w)
 have H:(spec_l2Get.l0 k l0 a1 0)=some r:=h
 clear h
 have H':=Aside0.mk H
 clear H
 go_enter Tryd.func92,Tryd.ntmps92
 go_wp2
 go_loopg [5] k (fun kq v5 w'=>∃ (x5_1:Int),v5 = .int .i64 x5_1∧Aside0 (spec_l2Get.l0 kq l0 a1 x5_1=some r)∧Aside0 (kq≤k)∧Aside0 (Kd.V k30 30 w' w.heap.size (fun k_=>(P0_ k_∨w.heap.size≤k_)) (.slice A0 l0.length c0) l0)∧Aside0 (Below w.heap.size w w'))
 case atStart=>exact ⟨(0),qz9,H',⟨Nat.le_refl _⟩,⟨qz90⟩,⟨qz5⟩⟩
 case round=>
  clear H'
  try clear p2
  obtain ⟨x5_1,rfl,HA,HK1,HO_0,HB⟩:=hrel
  cases gk with
  | zero=>exact absurd HA.out (by simp [spec_l2Get.l0])
  | succ k1=>
   have H:=HA.out
   clear HA
   simp only [spec_l2Get.l0] at H
   by_cases c3:x5_1<(l0.length:Int)
   ·rw [if_pos c3] at H
    have c3b0:decide (x5_1<(l0.length:Int))=true:=decide_eq_true c3
    clear c3
    by_cases c4:0≤x5_1
    ·rw [if_pos c4] at H
     have c4b0:decide (0≤x5_1)=true:=decide_eq_true c4
     clear c4
     by_cases c5:((rd_T30 l0 x5_1).f0)=a1
     ·rw [if_pos c5] at H
      have c5b0:(((rd_T30 l0 x5_1).f0) == a1)=true:=beq_iff_eq.mpr c5
      have c5b1:(((rd_T30 l0 x5_1).f0) != a1)=false:=bne_eq_false_iff_eq.mpr c5
      clear c5
      obtain rfl:=Option.some.inj H
      have p190:0≤(x5_1:Int):=of_decide_eq_true qz6
      have q190:x5_1<(l0.length:Int):=of_decide_eq_true qz6
      obtain ⟨ad190,A190_1,c190_1,e190,hx190_0,hx190_1,hl190_1,hi190_1⟩:=at_T30 (Kd.V_reads' HO_0.out).2.2 x5_1 p190 q190
      cases e190
      obtain ⟨ce190,hce190,hMe190,hcc190⟩:=Kd.V_get HO_0.out z30 x5_1 p190 (by first|exact q190|exact of_decide_eq_true qz6|(have e_:=(Kd.V_reads' HO_0.out).1;omega))
      obtain ⟨ua190_1,uc190_1,rfl,ul190_1,ge190_1⟩:=k30_openF hMe190
      have hv190_1:=hcc190 1 _ rfl
      rw [add_field _ _ 1 (by omega)] at hv190_1
      replace hv190_1:=Option.some.inj (hv190_1.symm.trans hx190_1)
      injection hv190_1 with hva_ hvn_ hvc_
      rw [hva_] at ge190_1
      rw [hvc_] at ul190_1
      have HL190_1:=Aside0.mk (show Kd.V k46 46 _ w.heap.size _ _ ((rd_T30 l0 x5_1).f1) from Kd.V_mk ul190_1 ge190_1)
      clear hva_ hvn_ hvc_ ge190_1 ul190_1 hcc190 hce190
      have HR190_1:=Aside0.mk hi190_1
      have HC190_1:=Aside0.mk hl190_1
      clear hi190_1 hl190_1
      replace p190:=eq_true p190
      replace q190:=eq_true q190
      have p191:0≤(x5_1:Int):=of_decide_eq_true qz6
      have q191:x5_1<(l0.length:Int):=of_decide_eq_true qz6
      obtain ⟨ad191,A191_1,c191_1,e191,hx191_0,hx191_1,hl191_1,hi191_1⟩:=at_T30 (Kd.V_reads' HO_0.out).2.2 x5_1 p191 q191
      obtain rfl:ad190=ad191:=(by injection e191)
      obtain ⟨ce191,hce191,hMe191,hcc191⟩:=Kd.V_get HO_0.out z30 x5_1 p191 (by first|exact q191|exact of_decide_eq_true qz6|(have e_:=(Kd.V_reads' HO_0.out).1;omega))
      obtain ⟨ua191_1,uc191_1,rfl,ul191_1,ge191_1⟩:=k30_openF hMe191
      have hv191_1:=hcc191 1 _ rfl
      rw [add_field _ _ 1 (by omega)] at hv191_1
      replace hv191_1:=Option.some.inj (hv191_1.symm.trans hx191_1)
      injection hv191_1 with hva_ hvn_ hvc_
      rw [hva_] at ge191_1
      rw [hvc_] at ul191_1
      have HL191_1:=Aside0.mk (show Kd.V k46 46 _ w.heap.size _ _ ((rd_T30 l0 x5_1).f1) from Kd.V_mk ul191_1 ge191_1)
      clear hva_ hvn_ hvc_ ge191_1 ul191_1 hcc191 hce191
      have HR191_1:=Aside0.mk hi191_1
      have HC191_1:=Aside0.mk hl191_1
      clear hi191_1 hl191_1
      replace p191:=eq_true p191
      replace q191:=eq_true q191
      have ea_:=Option.some.inj (hx190_1.symm.trans hx191_1)
      injection ea_ with ea_ en_ ec_
      subst ea_
      subst ec_
      clear en_
      go_wp2
      go_ret
      exact ⟨_,qz7,by (with_reducible repeat (first|apply Kd.V_alloc|apply Kd.V_drewN|apply Kd.V_drew));exact HL191_1.out,qz5⟩
     ·rw [if_neg c5] at H
      have c5b0:(((rd_T30 l0 x5_1).f0) == a1)=false:=beq_eq_false_iff_ne.mpr c5
      have c5b1:(((rd_T30 l0 x5_1).f0) != a1)=true:=bne_iff_ne.mpr c5
      have H':=Aside0.mk H
      clear H
      have p190:0≤(x5_1:Int):=of_decide_eq_true qz6
      have q190:x5_1<(l0.length:Int):=of_decide_eq_true qz6
      obtain ⟨ad190,A190_1,c190_1,e190,hx190_0,hx190_1,hl190_1,hi190_1⟩:=at_T30 (Kd.V_reads' HO_0.out).2.2 x5_1 p190 q190
      cases e190
      obtain ⟨ce190,hce190,hMe190,hcc190⟩:=Kd.V_get HO_0.out z30 x5_1 p190 (by first|exact q190|exact of_decide_eq_true qz6|(have e_:=(Kd.V_reads' HO_0.out).1;omega))
      obtain ⟨ua190_1,uc190_1,rfl,ul190_1,ge190_1⟩:=k30_openF hMe190
      have hv190_1:=hcc190 1 _ rfl
      rw [add_field _ _ 1 (by omega)] at hv190_1
      replace hv190_1:=Option.some.inj (hv190_1.symm.trans hx190_1)
      injection hv190_1 with hva_ hvn_ hvc_
      rw [hva_] at ge190_1
      rw [hvc_] at ul190_1
      have HL190_1:=Aside0.mk (show Kd.V k46 46 _ w.heap.size _ _ ((rd_T30 l0 x5_1).f1) from Kd.V_mk ul190_1 ge190_1)
      clear hva_ hvn_ hvc_ ge190_1 ul190_1 hcc190 hce190
      have HR190_1:=Aside0.mk hi190_1
      have HC190_1:=Aside0.mk hl190_1
      clear hi190_1 hl190_1
      replace p190:=eq_true p190
      replace q190:=eq_true q190
      go_wp2
      go_roundg k1
      case measure=>have:=HK1.out;omega
      case rel=>exact ⟨(wrap64 (x5_1+1)),qz9,H',⟨by have:=HK1.out;omega⟩,⟨qz65⟩,⟨qz5⟩⟩
    ·rw [if_neg c4] at H
     exact absurd H (by simp)
   ·rw [if_neg c3] at H
    have c3b0:decide (x5_1<(l0.length:Int))=false:=decide_eq_false c3
    clear c3
    obtain ⟨y187,hy187⟩:∃ y_:List (S46),y_=(([]:List (S46))):=⟨_,rfl⟩
    replace H:(some y187)=some r:=by first|(rw [hy187];exact H)|exact H
    have Ny187:=Aside0.mk hy187
    clear hy187
    obtain rfl:=Option.some.inj H
    go_wp2_with (first|((with_reducible refine gate_dst (N:=24) rfl ?_);refine Kd.R_lit k46 _ 46 ?hg (N:=24) ?hd (xs:=([]:List (S46))) (inner:=[]) (ok:=fun _=>True) (okp:=fun _=>True) ?hr ?hp (fun _ hk=>hk) trivial (Below.refl _ _) (Nat.le_refl _) (by simp) ?_;(case hd=>rfl);(case hg=>rfl);(case hr=>first|(go_simp;done)|(go_simp;rfl));(case hp=>exact (Reps.none _ _));intro v188 w6 ho7 hb hg_ hnew_;clear hg_ hnew_;(first|rw [← Ny187.out] at ho7|(simp only [Int.reduceToNat] at ho7;rw [← Ny187.out] at ho7));have n0_:=Aside0.mk (Kd.V_elder' qz65 (Kd.R_base ho7) hb);have n1_:=Aside0.mk (Kd.R_lower (Kd.R_newM (M:=fun k_=>(w.heap.size≤k_)) ho7 (below_size qz4) (fun k_ h_=>h_)) (below_size qz4));have n2_:=Aside0.mk (below_step qz4 hb);clear HO_0 HB;have HO_0:=n0_;have HO189:=n1_;have HB:=n2_;clear n0_ n1_ n2_ hb ho7))
    go_ret
    exact ⟨_,qz7,Kd.V_mono (Kd.R_V (by (with_reducible repeat (first|apply Kd.R_alloc|apply Kd.R_drewN|apply Kd.R_drew));exact Kd.R_mono HO189.out (fun _ hk=>hk.1))) (fun k_ hk=>by first|exact ⟨(.inr (hk.1)),hk.2⟩|exact (.inr (hk))),qz5⟩
mutual
def spec_l2Leads.l0:Nat→List (S30)→List Int→Int→Option (List Int)
 | 0,_,_,_=>none
 | k+1,x0,x5,x6=>if x6<(x5.length:Int) then (if 0≤x6 then ((spec_l2Get.f k x0 (rd x5 x6)).bind fun t196=>((spec_TrmFree.f k t196).bind fun t199=>(spec_l2Leads.l1 k x0 x5 x6 t199 0))) else (none)) else (some x5)
def spec_l2Leads.l1:Nat→List (S30)→List Int→Int→List Int→Int→Option (List Int)
 | 0,_,_,_,_,_=>none
 | k+1,x0,x5,x6,x7,x8=>if x8<(x7.length:Int) then (if 0≤x8 then ((spec_l1Has.f k x5 (rd x7 x8)).bind fun t203=>(if t203=true then (spec_l2Leads.l1 k x0 x5 x6 x7 (wrap64 (x8+1))) else (if x5.length<17592186044416 then (spec_l2Leads.l1 k x0 (x5++[rd x7 x8]) x6 x7 (wrap64 (x8+1))) else (none)))) else (none)) else (spec_l2Leads.l0 k x0 x5 (wrap64 (x6+1)))
end
def spec_l2Leads.f (k:Nat) (l0:List (S30)) (l1:List (S46)):Option (List Int):=(spec_TrmFree.f k l1).bind fun t192=>(spec_l2Leads.l0 k l0 t192 0)
set_option maxHeartbeats 8000000 in
set_option maxRecDepth 100000 in
theorem spec_l2Leads.calls (k:Nat) (A0:Option Addr) (c0:Nat) (l0:List (S30)) (A1:Option Addr) (c1:Nat) (l1:List (S46)) (r:List Int) (w:World) (hr0:Kd.C k30 w A0 l0.length l0) (hc0:l0.length≤c0) (hr1:Kd.C k46 w A1 l1.length l1) (hc1:l1.length≤c1) (h:spec_l2Leads.f k l0 l1=some r) :
  Calls Tryd.prog 59 #[.slice A0 l0.length c0,.slice A1 l1.length c1] w fun e w'=>∃ v0_:Value,e = .returned (v0_)∧Kd.R (Kd.int .i64) 3 w' w.heap.size (fun _=>True) v0_ r∧Below w.heap.size w w':=by
 have HR0:=Aside0.mk hr0
 have HC0:=Aside0.mk hc0
 clear hr0 hc0
 have HR1:=Aside0.mk hr1
 have HC1:=Aside0.mk hc1
 clear hr1 hc1
 have HB:=Aside0.mk (Below.refl w.heap.size w)
 have H:((spec_TrmFree.f k l1).bind fun t192=>(spec_l2Leads.l0 k l0 t192 0))=some r:=h
 clear h
 replace H:=Option.bind_eq_some_iff.mp H
 obtain ⟨t192,A30,H⟩:=H
 try dsimp only at H
 have A3:=Aside0.mk A30
 clear A30
 have H':=Aside0.mk H
 clear H
 go_enter Tryd.func59,Tryd.ntmps59
 go_wp2_with (first|(go_at_call 48;(with_reducible refine (spec_TrmFree.calls k _ _ l1 t192 _ ?side1 ?side2 A3.out).mono ?_);(case side1=>repeat (first|exact HR1.out|(with_reducible refine Kd.C_alloc ?_ _)|(with_reducible refine Kd.C_drewN ?_ _)|(with_reducible refine Kd.C_drew ?_)));(case side2=>exact HC1.out);rintro e w4 ⟨v193,rfl,ho0,hb⟩;have n0_:=Aside0.mk (Kd.R_lower ho0 (below_size qz4));have n1_:=Aside0.mk (below_step qz4 hb);clear HB;have HO194:=n0_;have HB:=n1_;clear n0_ n1_;(try clear hb);(try clear hb2);(try clear hk);(try clear hi);(try clear ho0)))
 go_loopg [5,6] k (fun kq v5 v6 w'=>∃ (x5_1:List Int) (x6_1:Int),v6 = .int .i64 x6_1∧Aside0 (spec_l2Leads.l0 kq l0 x5_1 x6_1=some r)∧Aside0 (kq≤k)∧Aside0 (Kd.R (Kd.int .i64) 3 w' w.heap.size (fun _=>True) v5 x5_1)∧Aside0 (Below w.heap.size w w'))
 case atStart=>exact ⟨(t192),(0),qz9,H',⟨Nat.le_refl _⟩,⟨by (with_reducible repeat (first|apply Kd.R_alloc|apply Kd.R_drewN|apply Kd.R_drew));exact HO194.out⟩,⟨qz5⟩⟩
 case round=>
  clear H'
  try clear c1
  try clear p2
  try clear c4
  obtain ⟨x5_1,x6_1,rfl,HA,HK1,HO_5,HB⟩:=hrel
  cases gk with
  | zero=>exact absurd HA.out (by simp [spec_l2Leads.l0])
  | succ k1=>
   have H:=HA.out
   clear HA
   simp only [spec_l2Leads.l0] at H
   by_cases c5:x6_1<(x5_1.length:Int)
   ·rw [if_pos c5] at H
    have c5b0:decide (x6_1<(x5_1.length:Int))=true:=decide_eq_true c5
    clear c5
    by_cases c6:0≤x6_1
    ·rw [if_pos c6] at H
     have c6b0:decide (0≤x6_1)=true:=decide_eq_true c6
     clear c6
     replace H:=Option.bind_eq_some_iff.mp H
     obtain ⟨t196,A70,H⟩:=H
     try dsimp only at H
     have A7:=Aside0.mk A70
     clear A70
     replace H:=Option.bind_eq_some_iff.mp H
     obtain ⟨t199,A80,H⟩:=H
     try dsimp only at H
     have A8:=Aside0.mk A80
     clear A80
     have H':=Aside0.mk H
     clear H
     obtain ⟨Ao9,co9,eo9⟩:=Kd.R_slice HO_5.out
     subst eo9
     have p195:0≤(x6_1:Int):=of_decide_eq_true qz6
     have q195:x6_1<(x5_1.length:Int):=of_decide_eq_true qz6
     obtain ⟨ad195,e195,hx195_0⟩:=Kd.at_int (Kd.R_reads' HO_5.out).2.2 x6_1 p195 q195
     cases e195
     replace p195:=eq_true p195
     replace q195:=eq_true q195
     go_wp2_with (first|(go_at_call 92;(with_reducible refine (spec_l2Get.calls k1 (fun k_=>k_<w.heap.size) _ _ l0 (rd x5_1 x6_1) t196 _ ?side1 A7.out).mono ?_);(case side1=>exact Kd.V_mk HC0.out (Kd.F_below (Kd.C_F k30_heap HR0.out) qz4));rintro e w10 ⟨v197,rfl,ho0,hb⟩;have n0_:=Aside0.mk (Kd.R_below qz46 hb);have n1_:=Aside0.mk (Kd.V_lower (Kd.V_mono (ok':=fun k_=>some k_≠(.slice (some ad195) x5_1.length co9:Value).ownBlock) ho0 (fun k_ hk_=>Or.elim hk_ (fun hs_=>fun e_=>Nat.not_le.2 hs_ (Kd.R_base HO_5.out k_ e_.symm)) (fun hn_=>(Kd.fresh' (Kd.R_lt qz46) k_ hn_)))) (below_size qz4));have n2_:=Aside0.mk (below_step qz4 hb);clear HO_5 HB;have HO_5:=n0_;have HO198:=n1_;have HB:=n2_;clear n0_ n1_ n2_;(try clear hb);(try clear hb2);(try clear hk);(try clear hi);(try clear ho0);obtain ⟨Ao11,co11,eo11⟩:=Kd.V_slice HO198.out;subst eo11)|(go_at_call 48;(with_reducible refine (spec_TrmFree.calls k1 _ _ t196 t199 _ ?side1 ?side2 A8.out).mono ?_);(case side1=>repeat (first|exact (Kd.V_reads' HO198.out).2.2|(with_reducible refine Kd.C_alloc ?_ _)|(with_reducible refine Kd.C_drewN ?_ _)|(with_reducible refine Kd.C_drew ?_)));(case side2=>exact (Kd.V_reads' HO198.out).2.1);rintro e w12 ⟨v200,rfl,ho0,hb⟩;have n0_:=Aside0.mk (Kd.R_elder' qz46 (Kd.R_base ho0) hb);have n1_:=Aside0.mk (Kd.V_elder' (by (with_reducible repeat (first|apply Kd.V_alloc|apply Kd.V_drewN|apply Kd.V_drew));exact HO198.out) (Kd.R_base ho0) hb);have n2_:=Aside0.mk (Kd.R_lower (Kd.R_new' ho0 (Kd.R_lt qz46)) (below_size qz4));have n3_:=Aside0.mk (below_step qz4 hb);clear HO_5 HO198 HB;have HO_5:=n0_;have HO198:=n1_;have HO201:=n2_;have HB:=n3_;clear n0_ n1_ n2_ n3_;(try clear hb);(try clear hb2);(try clear hk);(try clear hi);(try clear ho0)))
     go_loopg [5,8] k1 (fun kq v5 v8 w'=>∃ (x5_2:List Int) (x8_2:Int),v8 = .int .i64 x8_2∧Aside0 (spec_l2Leads.l1 kq l0 x5_2 x6_1 t199 x8_2=some r)∧Aside0 (kq≤k1)∧Aside0 (Kd.R (Kd.int .i64) 3 w' w.heap.size (fun k_=>some k_≠(v200:Value).ownBlock) v5 x5_2)∧Aside0 (Kd.R (Kd.int .i64) 3 w' w.heap.size (fun k_=>some k_≠(v5:Value).ownBlock) v200 t199)∧Aside0 (Below w.heap.size w w'))
     case atStart=>exact ⟨(x5_1),(0),qz9,H',⟨Nat.le_refl _⟩,⟨by (with_reducible repeat (first|apply Kd.R_alloc|apply Kd.R_drewN|apply Kd.R_drew));exact Kd.R_mono HO_5.out (fun _ hk=>hk.2)⟩,⟨by (with_reducible repeat (first|apply Kd.R_alloc|apply Kd.R_drewN|apply Kd.R_drew));exact Kd.R_mono HO201.out (fun _ hk=>hk.2)⟩,⟨qz5⟩⟩
     case round=>
      clear H'
      try clear c1
      try clear p1
      try clear q1
      try clear hx1
      try clear p2
      try clear c4
      try clear c5
      try clear c5b0
      try clear c6
      try clear c6b0
      try clear c9
      try clear hx195_0
      try clear p195
      try clear p2
      try clear q195
      obtain ⟨x5_2,x8_2,rfl,HA,HK2,HO_5,HO_7,HB⟩:=hrel
      cases gk with
      | zero=>exact absurd HA.out (by simp [spec_l2Leads.l1])
      | succ k2=>
       have H:=HA.out
       clear HA
       simp only [spec_l2Leads.l1] at H
       by_cases c13:x8_2<(t199.length:Int)
       ·rw [if_pos c13] at H
        have c13b0:decide (x8_2<(t199.length:Int))=true:=decide_eq_true c13
        clear c13
        by_cases c14:0≤x8_2
        ·rw [if_pos c14] at H
         have c14b0:decide (0≤x8_2)=true:=decide_eq_true c14
         clear c14
         replace H:=Option.bind_eq_some_iff.mp H
         obtain ⟨t203,A150,H⟩:=H
         try dsimp only at H
         have A15:=Aside0.mk A150
         clear A150
         by_cases c16:t203=true
         ·subst c16
          have H1:(spec_l2Leads.l1 k2 l0 x5_2 x6_1 t199 (wrap64 (x8_2+1)))=some r:=qz40
          clear H
          have H:=H1
          clear H1
          have H':=Aside0.mk H
          clear H
          obtain ⟨Ao17,co17,eo17⟩:=Kd.R_slice HO_7.out
          subst eo17
          have p202:0≤(x8_2:Int):=of_decide_eq_true qz6
          have q202:x8_2<(t199.length:Int):=of_decide_eq_true qz6
          obtain ⟨ad202,e202,hx202_0⟩:=Kd.at_int (Kd.R_reads' HO_7.out).2.2 x8_2 p202 q202
          cases e202
          replace p202:=eq_true p202
          replace q202:=eq_true q202
          obtain ⟨Ao18,co18,eo18⟩:=Kd.R_slice HO_5.out
          subst eo18
          go_wp2_with (first|(go_at_call 58;(with_reducible refine (spec_l1Has.calls k2 _ _ x5_2 (rd t199 x8_2) true _ ?side1 ?side2 A15.out).mono ?_);(case side1=>exact qz100);(case side2=>exact (Kd.R_reads' HO_5.out).2.1);rintro e w' ⟨rfl,⟨nd,rfl⟩⟩))
          go_roundg k2
          case measure=>have:=HK1.out;have:=HK2.out;omega
          case rel=>exact ⟨(x5_2),(wrap64 (x8_2+1)),qz9,H',⟨by have:=HK1.out;have:=HK2.out;omega⟩,⟨qz46⟩,⟨qz18⟩,⟨qz5⟩⟩
         ·replace c16:=Bool.eq_false_iff.mpr c16
          subst c16
          have H1:(if x5_2.length<17592186044416 then (spec_l2Leads.l1 k2 l0 (x5_2++[rd t199 x8_2]) x6_1 t199 (wrap64 (x8_2+1))) else (none))=some r:=qz20
          clear H
          have H:=H1
          clear H1
          by_cases c19:x5_2.length<17592186044416
          ·rw [if_pos c19] at H
           have LMc19:=Aside0.mk c19
           clear c19
           obtain ⟨y205,hy205⟩:∃ y_:List Int,y_=(x5_2++[rd t199 x8_2]):=⟨_,rfl⟩
           replace H:(spec_l2Leads.l1 k2 l0 y205 x6_1 t199 (wrap64 (x8_2+1)))=some r:=by first|(rw [hy205];exact H)|exact H
           have Ny205:=Aside0.mk hy205
           clear hy205
           have H':=Aside0.mk H
           clear H
           obtain ⟨Ao20,co20,eo20⟩:=Kd.R_slice HO_7.out
           subst eo20
           have p202:0≤(x8_2:Int):=of_decide_eq_true qz6
           have q202:x8_2<(t199.length:Int):=of_decide_eq_true qz6
           obtain ⟨ad202,e202,hx202_0⟩:=Kd.at_int (Kd.R_reads' HO_7.out).2.2 x8_2 p202 q202
           cases e202
           replace p202:=eq_true p202
           replace q202:=eq_true q202
           obtain ⟨Ao21,co21,eo21⟩:=Kd.R_slice HO_5.out
           subst eo21
           go_wp2_with (first|(go_at_call 58;(with_reducible refine (spec_l1Has.calls k2 _ _ x5_2 (rd t199 x8_2) false _ ?side1 ?side2 A15.out).mono ?_);(case side1=>exact qz100);(case side2=>exact (Kd.R_reads' HO_5.out).2.1);rintro e w' ⟨rfl,⟨nd,rfl⟩⟩;have p204:0≤(x8_2:Int):=of_decide_eq_true qz6;have q204:x8_2<(t199.length:Int):=of_decide_eq_true qz6;obtain ⟨ad204,e204,hx204_0⟩:=Kd.at_int (Kd.R_reads' HO_7.out).2.2 x8_2 p204 q204;obtain rfl:ad202=ad204:=(by injection e204);replace p204:=eq_true p204;replace q204:=eq_true q204)|((with_reducible refine gate_builtin (b:=.append) (xs:=#[.tmp 37,.tmp 42]) rfl ?_);at_builtin;refine Kd.R_append (Kd.int .i64) (w0:=w) w.heap.size rfl (.tmp 37) (.tmp 42) 43 3 (.int .i64 0) 8 rfl Tryd.underlying43 info3 rfl (by decide) (by omega) (.slice Ao21 x5_2.length co21) x5_2 (rd t199 x8_2) [.int .i64 (rd t199 x8_2)] (fun k_=>some k_≠(.slice (some ad202) t199.length co20:Value).ownBlock) (fun _=>False) rfl rfl ?aP (fun _ hk=>hk.elim) ?aF ?aO ?aB ?aS ?aL ?_;(case aP=>exact rfl);(case aB=>exact qz4);(case aF=>exact (fun k_ hk=>Kd.fresh' (Kd.R_lt qz18) k_ hk));(case aO=>exact qz46);(case aS=>exact (below_size qz4));(case aL=>have:=LMc19.out;omega);intro v206 w22 ho hb hg hat;rw [← Ny205.out] at ho;have n0_:=Aside0.mk (Kd.R_after (ok:=(fun _=>True)) (by (with_reducible repeat (first|apply Kd.R_alloc|apply Kd.R_drewN|apply Kd.R_drew));exact Kd.R_mono HO_7.out (fun _ hk=>⟨trivial,hk⟩)) hg hat);have n1_:=Aside0.mk (hb);have n2_:=Aside0.mk (ho);clear HO_7 HB HO_5;have HO_7:=n0_;have HB:=n1_;have HO207:=n2_;clear n0_ n1_ n2_ ho hb hg hat))
           go_roundg k2
           case measure=>have:=HK1.out;have:=HK2.out;omega
           case rel=>exact ⟨(y205),(wrap64 (x8_2+1)),qz9,H',⟨by have:=HK1.out;have:=HK2.out;omega⟩,⟨by (with_reducible repeat (first|apply Kd.R_alloc|apply Kd.R_drewN|apply Kd.R_drew));exact HO207.out⟩,⟨qz112⟩,⟨qz5⟩⟩
          ·rw [if_neg c19] at H
           exact absurd H (by simp)
        ·rw [if_neg c14] at H
         exact absurd H (by simp)
       ·rw [if_neg c13] at H
        have c13b0:decide (x8_2<(t199.length:Int))=false:=decide_eq_false c13
        clear c13
        have H':=Aside0.mk H
        clear H
        obtain ⟨Ao23,co23,eo23⟩:=Kd.R_slice HO_7.out
        subst eo23
        go_wp2
        go_roundg k2
        case measure=>have:=HK1.out;have:=HK2.out;omega
        case rel=>exact ⟨(x5_2),(wrap64 (x6_1+1)),qz9,H',⟨by have:=HK1.out;have:=HK2.out;omega⟩,⟨by (with_reducible repeat (first|apply Kd.R_alloc|apply Kd.R_drewN|apply Kd.R_drew));exact Kd.R_mono HO_5.out (fun _ hk=>trivial)⟩,⟨qz5⟩⟩
    ·rw [if_neg c6] at H
     exact absurd H (by simp)
   ·rw [if_neg c5] at H
    have c5b0:decide (x6_1<(x5_1.length:Int))=false:=decide_eq_false c5
    clear c5
    obtain rfl:=Option.some.inj H
    obtain ⟨Ao24,co24,eo24⟩:=Kd.R_slice HO_5.out
    subst eo24
    go_wp2
    go_ret
    exact ⟨_,qz7,qz46,qz5⟩
end Go.Proofs.YtlaicnoikeieeaaDoor.P
