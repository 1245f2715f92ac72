/- Contracts of functions of the program: each as a Lean function, and that its call does what that says; printed by cprint.py (this session) over print.py of the kit. Conditions: the hypotheses of each theorem. -/
import Derived.Test.YtlaicnoikeieeaaDoorVZ
import Derived.Test.YtlaicnoikeieeaaDoorP0
namespace Go.Proofs.YtlaicnoikeieeaaDoor.P
open Go.RowKit Go.Proofs.YtlaicnoikeieeaaDoorW.PrintWords Go.Proofs.YtlaicnoikeieeaaDoorW.PrintLast Go.Proofs.YtlaicnoikeieeaaDoorW.PrintMore
attribute [local go_sem] max2_int min2_int max_two min_two max_three min_three max_four min_four   -- for this text's walks alone
set_option linter.unusedVariables false
set_option linter.unusedSimpArgs false

/-! ### slices_Index_int: function 83 -/
def slices_Index_int.l0:Nat→List Int→Int→Int→Int→Option (Int)
 | 0,_,_,_,_=>none
 | k+1,x0,x1,x7,x8=>if x8<x7 then (if 0≤x8 then (if x8<(x0.length:Int) then (if x1=(rd x0 x8) then (some x8) else (slices_Index_int.l0 k x0 x1 x7 (wrap64 (x8+1)))) else (none)) else (none)) else (some (-1))
def slices_Index_int.f (k:Nat) (l0:List Int) (a1:Int):Option (Int):=slices_Index_int.l0 k l0 a1 (l0.length:Int) 0
set_option maxHeartbeats 8000000 in
set_option maxRecDepth 100000 in
theorem slices_Index_int.calls (k:Nat) (A0:Option Addr) (c0:Nat) (l0:List Int) (a1:Int) (r:Int) (w:World) (hr0:Kd.C (Kd.int .i64) w A0 l0.length l0) (hc0:l0.length≤c0) (h:slices_Index_int.f k l0 a1=some r) :
  Calls Tryd.prog 83 #[.slice A0 l0.length c0,.int .i64 a1] w fun e w'=>e = .returned (.int .i64 r)∧Drawn0 w w':=by
 have HR0:=Aside0.mk hr0
 have HC0:=Aside0.mk hc0
 clear hr0 hc0
 have H:(slices_Index_int.l0 k l0 a1 (l0.length:Int) 0)=some r:=h
 clear h
 have H':=Aside0.mk H
 clear H
 go_enter Tryd.func83,Tryd.ntmps83
 go_wp2
 go_loopg [8] k (fun kq v8 w'=>∃ (x8_1:Int),v8 = .int .i64 x8_1∧Aside0 (slices_Index_int.l0 kq l0 a1 (l0.length:Int) x8_1=some r)∧Aside0 (kq≤k)∧Drawn0 w w')
 case atStart=>exact ⟨(0),qz9,H',⟨Nat.le_refl _⟩,qz21⟩
 case round=>
  clear H'
  try clear p2
  obtain ⟨x8_1,rfl,HA,HK1,⟨m1,rfl⟩⟩:=hrel
  cases gk with
  | zero=>exact absurd HA.out (by simp [slices_Index_int.l0])
  | succ k1=>
   have H:=HA.out
   clear HA
   simp only [slices_Index_int.l0] at H
   by_cases c3:x8_1<(l0.length:Int)
   ·rw [if_pos c3] at H
    have c3b0:decide (x8_1<(l0.length:Int))=true:=decide_eq_true c3
    clear c3
    by_cases c4:0≤x8_1
    ·rw [if_pos c4] at H
     have c4b0:decide (0≤x8_1)=true:=decide_eq_true c4
     clear c4
     by_cases c5:x8_1<(l0.length:Int)
     ·rw [if_pos c5] at H
      have c5b0:decide (x8_1<(l0.length:Int))=true:=decide_eq_true c5
      clear c5
      by_cases c6:a1=(rd l0 x8_1)
      ·rw [if_pos c6] at H
       have c6b0:(a1 == (rd l0 x8_1))=true:=beq_iff_eq.mpr c6
       have c6b1:(a1 != (rd l0 x8_1))=false:=bne_eq_false_iff_eq.mpr c6
       clear c6
       obtain rfl:=Option.some.inj H
       have p169:0≤(x8_1:Int):=of_decide_eq_true qz7
       have q169:x8_1<(l0.length:Int):=of_decide_eq_true qz7
       obtain ⟨ad169,e169,hx169_0⟩:=Kd.at_int HR0.out x8_1 p169 q169
       cases e169
       replace p169:=eq_true p169
       replace q169:=eq_true q169
       go_wp2
       go_ret
       exact ⟨qz9,qz21⟩
      ·rw [if_neg c6] at H
       have c6b0:(a1 == (rd l0 x8_1))=false:=beq_eq_false_iff_ne.mpr c6
       have c6b1:(a1 != (rd l0 x8_1))=true:=bne_iff_ne.mpr c6
       have H':=Aside0.mk H
       clear H
       have p169:0≤(x8_1:Int):=of_decide_eq_true qz7
       have q169:x8_1<(l0.length:Int):=of_decide_eq_true qz7
       obtain ⟨ad169,e169,hx169_0⟩:=Kd.at_int HR0.out x8_1 p169 q169
       cases e169
       replace p169:=eq_true p169
       replace q169:=eq_true q169
       go_wp2
       go_roundg k1
       case measure=>have:=HK1.out;omega
       case rel=>exact ⟨(wrap64 (x8_1+1)),qz9,H',⟨by have:=HK1.out;omega⟩,qz21⟩
     ·rw [if_neg c5] at H
      exact absurd H (by simp)
    ·rw [if_neg c4] at H
     exact absurd H (by simp)
   ·rw [if_neg c3] at H
    have c3b0:decide (x8_1<(l0.length:Int))=false:=decide_eq_false c3
    clear c3
    obtain rfl:=Option.some.inj H
    go_wp2
    go_ret
    exact ⟨qz9,qz21⟩

/-! ### slices_Contains_int: function 71 -/
def slices_Contains_int.f (k:Nat) (l0:List Int) (a1:Int):Option (Bool):=(slices_Index_int.f k l0 a1).bind fun t170=>(some (decide (t170≥0)))
set_option maxHeartbeats 8000000 in
set_option maxRecDepth 100000 in
theorem slices_Contains_int.calls (k:Nat) (A0:Option Addr) (c0:Nat) (l0:List Int) (a1:Int) (r:Bool) (w:World) (hr0:Kd.C (Kd.int .i64) w A0 l0.length l0) (hc0:l0.length≤c0) (h:slices_Contains_int.f k l0 a1=some r) :
  Calls Tryd.prog 71 #[.slice A0 l0.length c0,.int .i64 a1] w fun e w'=>e = .returned (.bool r)∧Drawn0 w w':=by
 have HR0:=Aside0.mk hr0
 have HC0:=Aside0.mk hc0
 clear hr0 hc0
 have H:((slices_Index_int.f k l0 a1).bind fun t170=>(some (decide (t170≥0))))=some r:=h
 clear h
 replace H:=Option.bind_eq_some_iff.mp H
 obtain ⟨t170,A30,H⟩:=H
 try dsimp only at H
 have A3:=Aside0.mk A30
 clear A30
 obtain rfl:=Option.some.inj H
 go_enter Tryd.func71,Tryd.ntmps71
 go_wp2_with (first|(go_at_call 83;(with_reducible refine (slices_Index_int.calls k _ _ l0 a1 t170 _ ?side1 ?side2 A3.out).mono ?_);(case side1=>exact qz48);(case side2=>exact HC0.out);rintro e w' ⟨rfl,⟨nd,rfl⟩⟩))
 go_ret
 exact ⟨qz9,qz21⟩

/-! ### impl_TrmFree: function 32 -/
def impl_TrmFree.l0:Nat→List Int→List (S46)→Int→Int→Option (List Int)
 | 0,_,_,_,_=>none
 | k+1,x3,x6,x7,x8=>if x8<x7 then (if 0≤x8 then (if x8<(x6.length:Int) then (if ((rd_T46 x6 x8).f0)=1 then ((slices_Contains_int.f k x3 ((rd_T46 x6 x8).f1)).bind fun t173=>(if t173=true then (impl_TrmFree.l0 k x3 x6 x7 (wrap64 (x8+1))) else (if x3.length<17592186044416 then (impl_TrmFree.l0 k (x3++[(rd_T46 x6 x8).f1]) x6 x7 (wrap64 (x8+1))) else (none)))) else (impl_TrmFree.l0 k x3 x6 x7 (wrap64 (x8+1)))) else (none)) else (none)) else (some x3)
def impl_TrmFree.f (k:Nat) (l0:List (S46)):Option (List Int):=impl_TrmFree.l0 k ([]:List Int) l0 (l0.length:Int) 0
set_option maxHeartbeats 8000000 in
set_option maxRecDepth 100000 in
theorem impl_TrmFree.calls (k:Nat) (A0:Option Addr) (c0:Nat) (l0:List (S46)) (r:List Int) (w:World) (hr0:Kd.C k46 w A0 l0.length l0) (hc0:l0.length≤c0) (h:impl_TrmFree.f k l0=some r) :
  Calls Tryd.prog 32 #[.slice A0 l0.length c0] w fun e w'=>∃ v0_:Value,e = .returned (v0_)∧Kd.R (Kd.int .i64) 3 w' w.heap.size (fun _=>True) v0_ r∧Below w.heap.size w w':=by
 have hu46:=Tryd.underlying46
 have HR0:=Aside0.mk hr0
 have HC0:=Aside0.mk hc0
 clear hr0 hc0
 have HB:=Aside0.mk (Below.refl w.heap.size w)
 have H:(impl_TrmFree.l0 k ([]:List Int) l0 (l0.length:Int) 0)=some r:=h
 clear h
 have H':=Aside0.mk H
 clear H
 go_enter Tryd.func32,Tryd.ntmps32
 go_wp2
 go_loopg [3,8] k (fun kq v3 v8 w'=>∃ (x3_1:List Int) (x8_1:Int),v8 = .int .i64 x8_1∧Aside0 (impl_TrmFree.l0 kq x3_1 l0 (l0.length:Int) x8_1=some r)∧Aside0 (kq≤k)∧Aside0 (Kd.R (Kd.int .i64) 3 w' w.heap.size (fun _=>True) v3 x3_1)∧Aside0 (Below w.heap.size w w'))
 case atStart=>exact ⟨(([]:List Int)),(0),qz9,H',⟨Nat.le_refl _⟩,⟨by first|exact Kd.R_nil _ _ _ _ _|exact Kd.N_nil _ _ _ _ _|exact Kd.V_nil _ _ _ _ _|exact Kd.Q_nil _ _ _ _ _|exact Kd.S_nil _ _ _ _ _⟩,⟨qz6⟩⟩
 case round=>
  clear H'
  obtain ⟨x3_1,x8_1,rfl,HA,HK1,HO_3,HB⟩:=hrel
  cases gk with
  | zero=>exact absurd HA.out (by simp [impl_TrmFree.l0])
  | succ k1=>
   have H:=HA.out
   clear HA
   simp only [impl_TrmFree.l0] at H
   by_cases c2:x8_1<(l0.length:Int)
   ·rw [if_pos c2] at H
    have c2b0:decide (x8_1<(l0.length:Int))=true:=decide_eq_true c2
    clear c2
    by_cases c3:0≤x8_1
    ·rw [if_pos c3] at H
     have c3b0:decide (0≤x8_1)=true:=decide_eq_true c3
     clear c3
     by_cases c4:x8_1<(l0.length:Int)
     ·rw [if_pos c4] at H
      have c4b0:decide (x8_1<(l0.length:Int))=true:=decide_eq_true c4
      clear c4
      by_cases c5:((rd_T46 l0 x8_1).f0)=1
      ·rw [if_pos c5] at H
       have c5b0:(((rd_T46 l0 x8_1).f0) == 1)=true:=beq_iff_eq.mpr c5
       have c5b1:(((rd_T46 l0 x8_1).f0) != 1)=false:=bne_eq_false_iff_eq.mpr c5
       clear c5
       replace H:=Option.bind_eq_some_iff.mp H
       obtain ⟨t173,A60,H⟩:=H
       try dsimp only at H
       have A6:=Aside0.mk A60
       clear A60
       by_cases c7:t173=true
       ·subst c7
        have H1:(impl_TrmFree.l0 k1 x3_1 l0 (l0.length:Int) (wrap64 (x8_1+1)))=some r:=qz44
        clear H
        have H:=H1
        clear H1
        have H':=Aside0.mk H
        clear H
        have p171:0≤(x8_1:Int):=of_decide_eq_true qz7
        have q171:x8_1<(l0.length:Int):=of_decide_eq_true qz7
        obtain ⟨ad171,e171,hx171_0,hx171_1,hx171_2⟩:=at_T46 HR0.out x8_1 p171 q171
        cases e171
        replace hx171_0:=(HB.out.cell (World.block_lt_of_cell? w _ hx171_0)).trans hx171_0
        replace hx171_1:=(HB.out.cell (World.block_lt_of_cell? w _ hx171_1)).trans hx171_1
        replace hx171_2:=(HB.out.cell (World.block_lt_of_cell? w _ hx171_2)).trans hx171_2
        replace p171:=eq_true p171
        replace q171:=eq_true q171
        go_wp2_with (first|((with_reducible refine gate_dst (N:=5) rfl ?_);refine box_event ?hg (N:=5) ?hd (cs:=#[.int .i64 0,.int .i64 0,.string (⟨#[]⟩:ByteArray)]) (t:=46) ?hr ?_;(case hd=>rfl);(case hg=>rfl);(case hr=>first|(go_simp;done)|(go_simp;rfl));intro gb172 hg w8 hbox hb;have n0_:=Aside0.mk (Kd.R_below qz41 hb);have n1_:=Aside0.mk (below_step qz5 hb);have n2_:=Aside0.mk (hbox);have n3_:=Aside0.mk ((by rw [hg];exact (below_size qz5):w.heap.size≤gb172));have n4_:=Aside0.mk ((by rw [hg];exact (below_size qz5):w.heap.size≤gb172));clear HO_3 HB;have HO_3:=n0_;have HB:=n1_;have BK172:=n2_;have GW172:=n3_;have GE172:=n4_;clear n0_ n1_ n2_ n3_ n4_ hb hbox hg;have hcz9_0:w8.cell? ⟨gb172,0,none⟩=some (.int .i64 0):=(blk_cell BK172.out 0).trans rfl;have hcz9_1:w8.cell? ⟨gb172,1,none⟩=some (.int .i64 0):=(blk_cell BK172.out 1).trans rfl;have hcz9_2:w8.cell? ⟨gb172,2,none⟩=some (.string (⟨#[]⟩:ByteArray)):=(blk_cell BK172.out 2).trans rfl;have hfz9_0:=blk_frozen BK172.out 0;have hfz9_1:=blk_frozen BK172.out 1;have hfz9_2:=blk_frozen BK172.out 2;obtain ⟨Ao10,co10,eo10⟩:=Kd.R_slice HO_3.out;subst eo10)|(go_at_call 71;(with_reducible refine (slices_Contains_int.calls k1 _ _ x3_1 ((rd_T46 l0 x8_1).f1) true _ ?side1 ?side2 A6.out).mono ?_);(case side1=>refine (Kd.R_reads' (e:=3) (base:=w.heap.size) (ok:=fun k_=>True) (n:=x3_1.length) (c:=co10) ?_).2.2;exact qz49);(case side2=>exact (Kd.R_reads' HO_3.out).2.1);rintro e w' ⟨rfl,⟨nd,rfl⟩⟩))
        go_roundg k1
        case measure=>have:=HK1.out;omega
        case rel=>exact ⟨(x3_1),(wrap64 (x8_1+1)),qz9,H',⟨by have:=HK1.out;omega⟩,⟨qz32⟩,⟨qz43⟩⟩
       ·replace c7:=Bool.eq_false_iff.mpr c7
        subst c7
        have H1:(if x3_1.length<17592186044416 then (impl_TrmFree.l0 k1 (x3_1++[(rd_T46 l0 x8_1).f1]) l0 (l0.length:Int) (wrap64 (x8_1+1))) else (none))=some r:=qz22
        clear H
        have H:=H1
        clear H1
        by_cases c11:x3_1.length<17592186044416
        ·rw [if_pos c11] at H
         have LMc11:=Aside0.mk c11
         clear c11
         obtain ⟨y174,hy174⟩:∃ y_:List Int,y_=(x3_1++[(rd_T46 l0 x8_1).f1]):=⟨_,rfl⟩
         replace H:(impl_TrmFree.l0 k1 y174 l0 (l0.length:Int) (wrap64 (x8_1+1)))=some r:=by first|(rw [hy174];exact H)|exact H
         have Ny174:=Aside0.mk hy174
         clear hy174
         have H':=Aside0.mk H
         clear H
         have p171:0≤(x8_1:Int):=of_decide_eq_true qz7
         have q171:x8_1<(l0.length:Int):=of_decide_eq_true qz7
         obtain ⟨ad171,e171,hx171_0,hx171_1,hx171_2⟩:=at_T46 HR0.out x8_1 p171 q171
         cases e171
         replace hx171_0:=(HB.out.cell (World.block_lt_of_cell? w _ hx171_0)).trans hx171_0
         replace hx171_1:=(HB.out.cell (World.block_lt_of_cell? w _ hx171_1)).trans hx171_1
         replace hx171_2:=(HB.out.cell (World.block_lt_of_cell? w _ hx171_2)).trans hx171_2
         replace p171:=eq_true p171
         replace q171:=eq_true q171
         go_wp2_with (first|((with_reducible refine gate_dst (N:=5) rfl ?_);refine box_event ?hg (N:=5) ?hd (cs:=#[.int .i64 0,.int .i64 0,.string (⟨#[]⟩:ByteArray)]) (t:=46) ?hr ?_;(case hd=>rfl);(case hg=>rfl);(case hr=>first|(go_simp;done)|(go_simp;rfl));intro gb172 hg w12 hbox hb;have n0_:=Aside0.mk (Kd.R_below qz41 hb);have n1_:=Aside0.mk (below_step qz5 hb);have n2_:=Aside0.mk (hbox);have n3_:=Aside0.mk ((by rw [hg];exact (below_size qz5):w.heap.size≤gb172));have n4_:=Aside0.mk ((by rw [hg];exact (below_size qz5):w.heap.size≤gb172));clear HO_3 HB;have HO_3:=n0_;have HB:=n1_;have BK172:=n2_;have GW172:=n3_;have GE172:=n4_;clear n0_ n1_ n2_ n3_ n4_ hb hbox hg;have hcz13_0:w12.cell? ⟨gb172,0,none⟩=some (.int .i64 0):=(blk_cell BK172.out 0).trans rfl;have hcz13_1:w12.cell? ⟨gb172,1,none⟩=some (.int .i64 0):=(blk_cell BK172.out 1).trans rfl;have hcz13_2:w12.cell? ⟨gb172,2,none⟩=some (.string (⟨#[]⟩:ByteArray)):=(blk_cell BK172.out 2).trans rfl;have hfz13_0:=blk_frozen BK172.out 0;have hfz13_1:=blk_frozen BK172.out 1;have hfz13_2:=blk_frozen BK172.out 2;obtain ⟨Ao14,co14,eo14⟩:=Kd.R_slice HO_3.out;subst eo14)|(go_at_call 71;(with_reducible refine (slices_Contains_int.calls k1 _ _ x3_1 ((rd_T46 l0 x8_1).f1) false _ ?side1 ?side2 A6.out).mono ?_);(case side1=>refine (Kd.R_reads' (e:=3) (base:=w.heap.size) (ok:=fun k_=>True) (n:=x3_1.length) (c:=co14) ?_).2.2;exact qz49);(case side2=>exact (Kd.R_reads' HO_3.out).2.1);rintro e w' ⟨rfl,⟨nd,rfl⟩⟩)|((with_reducible refine gate_builtin (b:=.append) (xs:=#[.tmp 22,.tmp 25]) rfl ?_);at_builtin;refine Kd.R_append (Kd.int .i64) (w0:=w) w.heap.size rfl (.tmp 22) (.tmp 25) 43 3 (.int .i64 0) 8 rfl Tryd.underlying43 info3 rfl (by decide) (by omega) (.slice Ao14 x3_1.length co14) x3_1 ((rd_T46 l0 x8_1).f1) [.int .i64 ((rd_T46 l0 x8_1).f1)] (fun _=>True) (fun _=>False) rfl (by first|(go_simp;done)|(go_simp;rfl)) ?aP (fun _ hk=>hk.elim) ?aF ?aO ?aB ?aS ?aL ?_;(case aP=>exact rfl);(case aB=>exact qz43);(case aF=>exact (fun _ _=>trivial));(case aO=>exact qz32);(case aS=>exact (below_size qz43));(case aL=>have:=LMc11.out;omega);intro v175 w15 ho hb hg hat;rw [← Ny174.out] at ho;have n0_:=Aside0.mk (blk_grown (g:=gb172) (o:=.cells #[.int .i64 ((rd_T46 l0 x8_1).f0),.int .i64 ((rd_T46 l0 x8_1).f1),.string ((rd_T46 l0 x8_1).f2)] 46 (0,0)) (by (with_reducible repeat (first|refine blk_drewN ?_ _|refine blk_drew ?_|refine blk_alloc ?_ _));refine blk_put (cs:=#[.int .i64 ((rd_T46 l0 x8_1).f0),.int .i64 ((rd_T46 l0 x8_1).f1),.string (⟨#[]⟩:ByteArray)]) ?_ 2 _ rfl;(with_reducible repeat (first|refine blk_drewN ?_ _|refine blk_drew ?_|refine blk_alloc ?_ _));refine blk_put (cs:=#[.int .i64 ((rd_T46 l0 x8_1).f0),.int .i64 0,.string (⟨#[]⟩:ByteArray)]) ?_ 1 _ rfl;(with_reducible repeat (first|refine blk_drewN ?_ _|refine blk_drew ?_|refine blk_alloc ?_ _));refine blk_put (cs:=#[.int .i64 0,.int .i64 0,.string (⟨#[]⟩:ByteArray)]) ?_ 0 _ rfl;(with_reducible repeat (first|refine blk_drewN ?_ _|refine blk_drew ?_|refine blk_alloc ?_ _));exact BK172.out) hg (by first|exact Kd.R_ne HO_3.out BK172.out (by decide)|exact fun he_=>(HO_3.out.1 _ he_.symm).2 rfl));have n1_:=Aside0.mk (hb);have n2_:=Aside0.mk (ho);clear BK172 HB HO_3;have BK172:=n0_;have HB:=n1_;have HO176:=n2_;clear n0_ n1_ n2_ ho hb hg hat))
         go_roundg k1
         case measure=>have:=HK1.out;omega
         case rel=>exact ⟨(y174),(wrap64 (x8_1+1)),qz9,H',⟨by have:=HK1.out;omega⟩,⟨by (with_reducible repeat (first|apply Kd.R_alloc|apply Kd.R_drewN|apply Kd.R_drew));exact HO176.out⟩,⟨qz43⟩⟩
        ·rw [if_neg c11] at H
         exact absurd H (by simp)
      ·rw [if_neg c5] at H
       have c5b0:(((rd_T46 l0 x8_1).f0) == 1)=false:=beq_eq_false_iff_ne.mpr c5
       have c5b1:(((rd_T46 l0 x8_1).f0) != 1)=true:=bne_iff_ne.mpr c5
       have H':=Aside0.mk H
       clear H
       have p171:0≤(x8_1:Int):=of_decide_eq_true qz7
       have q171:x8_1<(l0.length:Int):=of_decide_eq_true qz7
       obtain ⟨ad171,e171,hx171_0,hx171_1,hx171_2⟩:=at_T46 HR0.out x8_1 p171 q171
       cases e171
       replace hx171_0:=(HB.out.cell (World.block_lt_of_cell? w _ hx171_0)).trans hx171_0
       replace hx171_1:=(HB.out.cell (World.block_lt_of_cell? w _ hx171_1)).trans hx171_1
       replace hx171_2:=(HB.out.cell (World.block_lt_of_cell? w _ hx171_2)).trans hx171_2
       replace p171:=eq_true p171
       replace q171:=eq_true q171
       go_wp2_with (first|((with_reducible refine gate_dst (N:=5) rfl ?_);refine box_event ?hg (N:=5) ?hd (cs:=#[.int .i64 0,.int .i64 0,.string (⟨#[]⟩:ByteArray)]) (t:=46) ?hr ?_;(case hd=>rfl);(case hg=>rfl);(case hr=>first|(go_simp;done)|(go_simp;rfl));intro gb172 hg w16 hbox hb;have n0_:=Aside0.mk (Kd.R_below qz41 hb);have n1_:=Aside0.mk (below_step qz5 hb);have n2_:=Aside0.mk (hbox);have n3_:=Aside0.mk ((by rw [hg];exact (below_size qz5):w.heap.size≤gb172));have n4_:=Aside0.mk ((by rw [hg];exact (below_size qz5):w.heap.size≤gb172));clear HO_3 HB;have HO_3:=n0_;have HB:=n1_;have BK172:=n2_;have GW172:=n3_;have GE172:=n4_;clear n0_ n1_ n2_ n3_ n4_ hb hbox hg;have hcz17_0:w16.cell? ⟨gb172,0,none⟩=some (.int .i64 0):=(blk_cell BK172.out 0).trans rfl;have hcz17_1:w16.cell? ⟨gb172,1,none⟩=some (.int .i64 0):=(blk_cell BK172.out 1).trans rfl;have hcz17_2:w16.cell? ⟨gb172,2,none⟩=some (.string (⟨#[]⟩:ByteArray)):=(blk_cell BK172.out 2).trans rfl;have hfz17_0:=blk_frozen BK172.out 0;have hfz17_1:=blk_frozen BK172.out 1;have hfz17_2:=blk_frozen BK172.out 2))
       go_roundg k1
       case measure=>have:=HK1.out;omega
       case rel=>exact ⟨(x3_1),(wrap64 (x8_1+1)),qz9,H',⟨by have:=HK1.out;omega⟩,⟨qz32⟩,⟨qz43⟩⟩
     ·rw [if_neg c4] at H
      exact absurd H (by simp)
    ·rw [if_neg c3] at H
     exact absurd H (by simp)
   ·rw [if_neg c2] at H
    have c2b0:decide (x8_1<(l0.length:Int))=false:=decide_eq_false c2
    clear c2
    obtain rfl:=Option.some.inj H
    go_wp2
    go_ret
    exact ⟨_,qz8,qz41,qz6⟩

/-! ### slices_IndexFunc_SubBind: function 53 -/
/-- which binding is the first at which p says yes, p going through states; -1, if none is -/
def firstS {σ:Type} (p:σ→Cat.Bind→Option (Bool × σ)):σ→List Cat.Bind→Nat→Option (Int × σ)
 | s,[],_=>some (-1,s)
 | s,x :: l,i=>(p s x).bind fun r=>if r.1=true then some ((i:Int),r.2) else firstS p r.2 l (i+1)
theorem grown_both {a b c:World} {g:Option Nat} (h:a.grownBy b g) (k:b.grownBy c g):a.grownBy c g:=
 ⟨k.os.trans h.os,k.tape.trans h.tape,k.output.trans h.output,Nat.le_trans h.size k.size,fun i hi hg=>(k.block i (Nat.lt_of_lt_of_le hi h.size) hg).trans (h.block i hi hg)⟩
theorem grown_nothing (w:World) (g:Option Nat):w.grownBy w g:=⟨rfl,rfl,rfl,Nat.le_refl _,fun _ _ _=>rfl⟩
theorem grown_below {w w':World} (h:Below w.heap.size w w') (g:Option Nat):w.grownBy w' g:=⟨h.os,h.tape,h.output,h.size,fun k hk _=>h.block k hk⟩
theorem below_grown {w w':World} (h:w.grownBy w' none):Below w.heap.size w w':=⟨h.os,h.tape,h.output,h.size,fun k hk=>h.block k hk (by simp)⟩
/-- what is asked of a predicate on bindings that goes through states: told in memory by J; it may write the block row -/
def PredB {σ:Type} (g:Nat) (lb:Array Value) (row:Option Nat) (p:σ→Cat.Bind→Option (Bool × σ)) (J:σ→World→Prop) (w:World):Prop:=
 ∀ (s s':σ) (x:Cat.Bind) (b:Bool) (W:World) (A:Option Addr) (c:Nat),p s x=some (b,s')→w.grownBy W row→J s W→x.f1.length≤c→Kd.C k46 W A x.f1.length x.f1→
  Calls Tryd.prog g (#[.agg #[.int .i64 x.f0,.slice A x.f1.length c]]++lb) W fun e w'=>e = .returned (.bool b)∧J s' w'∧W.grownBy w' row
set_option maxHeartbeats 4000000 in
set_option maxRecDepth 100000 in
theorem indexFunc_binds {σ:Type} (g:Nat) (lb:Array Value) (row:Option Nat) (p:σ→Cat.Bind→Option (Bool × σ)) (J:σ→World→Prop) (eg:∀ args w,(callFunc g args).run Tryd.prog w = .ok (.enter g args) w)
  (A0:Option Addr) (c0:Nat) (l0:List (S30)) (w:World) (hr0:∀ W,w.grownBy W row→Kd.C k30 W A0 l0.length l0) (hp:PredB g lb row p J w) (s0 s1:σ) (r:Int) (h:firstS p s0 l0 0=some (r,s1)) (hJ:J s0 w) :
  Calls Tryd.prog 53 #[.slice A0 l0.length c0,.func (.func g) #[] lb] w fun e w'=>e = .returned (.int .i64 r)∧J s1 w'∧w.grownBy w' row:=by
 have HR:=Aside0.mk hr0
 have HP:=Aside0.mk hp
 have HH:=Aside0.mk h
 have HJ:=Aside0.mk hJ
 have hm:l0.length≤9223372036854775807:=(hr0 w (grown_nothing w row)).2.1
 clear hr0 hp h hJ
 go_enter Tryd.func53,Tryd.ntmps53
 go_wp2
 go_loopg [5,8] l0.length (fun gg _ s8 wr=>∃ (kk:Nat) (s:σ),kk≤l0.length∧l0.length - kk≤gg∧s8 = .int .i64 kk∧Aside0 (w.grownBy wr row)∧Aside0 (J s wr)∧Aside0 (firstS p s (l0.drop kk) kk=some (r,s1)))
 case atStart=>exact ⟨0,s0,Nat.zero_le _,by omega,rfl,⟨grown_nothing _ _⟩,HJ,⟨by rw [List.drop_zero];exact HH.out⟩⟩
 case round=>
  obtain ⟨kk,s,hkk,hg,rfl,BW,JW,A⟩:=hrel
  by_cases hlt:kk<l0.length
  ·have hltz:(kk:Int)<(l0.length:Int):=by omega
   have hl:=A.out
   rw [List.drop_eq_getElem_cons hlt,firstS] at hl
   cases ex:p s l0[kk] with
   | none=>rw [ex] at hl;cases hl
   | some q=>
   obtain ⟨bx,sx⟩:=q
   rw [ex] at hl
   simp only [Option.bind_some] at hl
   obtain ⟨ad,A1,c1,e1,hx0,hx1,hl1,hC1⟩:=at_T30 (HR.out wr BW.out) (kk:Int) (by omega) hltz
   cases e1
   rw [Int.toNat_natCast] at hx0 hx1
   have ey:rd_T30 l0 (kk:Int)=l0[kk]:=by simp [rd_T30,List.getD,hlt]
   rw [ey] at hx0 hx1 hl1 hC1
   have hcall:=HP.out s sx l0[kk] bx wr A1 c1 ex BW.out JW.out hl1 hC1
   generalize l0[kk]=y at hx0 hx1 hcall ex hl1 hC1
   have HLL:=Aside0.mk hl
   clear hl ex ey hC1 hl1
   cases bx with
   | true=>
    go_wp2_with (go_at_fn g;refine hcall.mono ?_;rintro e w' ⟨rfl,hj',hb'⟩;have HJ':=Aside0.mk hj';have HB':=Aside0.mk hb';clear hj' hb')
    go_ret
    have h1:=HLL.out
    rw [if_pos (by simp)] at h1
    obtain ⟨rfl,rfl⟩:=Prod.mk.inj (Option.some.inj h1)
    exact ⟨rfl,HJ'.out,grown_both BW.out HB'.out⟩
   | false=>
    go_wp2_with (go_at_fn g;refine hcall.mono ?_;rintro e w' ⟨rfl,hj',hb'⟩;have HJ':=Aside0.mk hj';have HB':=Aside0.mk hb';clear hj' hb')
    go_roundg (l0.length - (kk+1))
    case measure=>omega
    case rel=>
     refine ⟨kk+1,sx,by omega,by omega,by go_num,⟨grown_both BW.out HB'.out⟩,HJ',⟨?_⟩⟩
     have h1:=HLL.out
     rwa [if_neg (by simp)] at h1
  ·have hltz:¬ (kk:Int)<(l0.length:Int):=by omega
   have hl:=A.out
   rw [List.drop_eq_nil_of_le (by omega),firstS] at hl
   obtain ⟨rfl,rfl⟩:=Prod.mk.inj (Option.some.inj hl)
   clear hl
   go_wp2
   go_ret
   exact ⟨rfl,JW.out,BW.out⟩

/-! ### slices_ContainsFunc_SubBind: function 62 -/
/-- whether p says yes at one -/
def anyS {σ:Type} (p:σ→Cat.Bind→Option (Bool × σ)):σ→List Cat.Bind→Option (Bool × σ)
 | s,[]=>some (false,s)
 | s,x :: l=>(p s x).bind fun r=>if r.1=true then some (true,r.2) else anyS p r.2 l
theorem firstS_any {σ:Type} (p:σ→Cat.Bind→Option (Bool × σ)):∀ (l:List Cat.Bind) (s s':σ) (i:Nat) (b:Bool),anyS p s l=some (b,s')→∃ r,firstS p s l i=some (r,s')∧decide (r≥0)=b
 | [],s,s',i,b,h=>by
  obtain ⟨rfl,rfl⟩:=Prod.mk.inj (Option.some.inj h)
  exact ⟨-1,rfl,rfl⟩
 | x :: l,s,s',i,b,h=>by
  rw [anyS] at h
  rw [firstS]
  cases e:p s x with
  | none=>rw [e] at h;cases h
  | some r=>
   rw [e] at h
   simp only [Option.bind_some] at h ⊢
   by_cases hr:r.1=true
   ·rw [if_pos hr] at h
    obtain ⟨rfl,rfl⟩:=Prod.mk.inj (Option.some.inj h)
    exact ⟨(i:Int),by rw [if_pos hr],by simp⟩
   ·rw [if_neg hr] at h
    obtain ⟨q,h1,h2⟩:=firstS_any p l _ _ (i+1) _ h
    exact ⟨q,by rw [if_neg hr];exact h1,h2⟩
set_option maxHeartbeats 4000000 in
set_option maxRecDepth 100000 in
theorem containsFunc_binds {σ:Type} (g:Nat) (lb:Array Value) (row:Option Nat) (p:σ→Cat.Bind→Option (Bool × σ)) (J:σ→World→Prop) (eg:∀ args w,(callFunc g args).run Tryd.prog w = .ok (.enter g args) w)
  (A0:Option Addr) (c0:Nat) (l0:List (S30)) (w:World) (hr0:∀ W,w.grownBy W row→Kd.C k30 W A0 l0.length l0) (hp:PredB g lb row p J w) (s0 s1:σ) (b:Bool) (h:anyS p s0 l0=some (b,s1)) (hJ:J s0 w) :
  Calls Tryd.prog 62 #[.slice A0 l0.length c0,.func (.func g) #[] lb] w fun e w'=>e = .returned (.bool b)∧J s1 w'∧w.grownBy w' row:=by
 obtain ⟨r,h1,h2⟩:=firstS_any p l0 s0 s1 0 b h
 have H:=Aside0.mk (indexFunc_binds g lb row p J eg A0 c0 l0 w hr0 hp s0 s1 r h1 hJ)
 have HA:=Aside0.mk h2
 clear hr0 hp h hJ h1 h2
 go_enter Tryd.func62,Tryd.ntmps62
 go_wp2_with (go_at_call 53;refine H.out.mono ?_;rintro e w' ⟨rfl,hj,hb⟩;have HJ:=Aside0.mk hj;have HB:=Aside0.mk hb;clear hj hb)
 go_ret
 exact ⟨by rw [← HA.out];rfl,HJ.out,HB.out⟩

end Go.Proofs.YtlaicnoikeieeaaDoor.P
