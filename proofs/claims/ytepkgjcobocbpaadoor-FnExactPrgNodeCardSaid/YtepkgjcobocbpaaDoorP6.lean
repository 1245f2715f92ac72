/- Contracts of functions of the program: each as a Lean function, and that its call does what that says; printed by cprint.py (this session) over print.py of the kit. Conditions: the hypotheses of each theorem. -/
import Derived.Test.YtepkgjcobocbpaaDoorVZ
import Derived.Test.YtepkgjcobocbpaaDoorP0
import Derived.Test.YtepkgjcobocbpaaDoorP1
import Derived.Test.YtepkgjcobocbpaaDoorP2
import Derived.Test.YtepkgjcobocbpaaDoorP5
namespace Go.Proofs.YtepkgjcobocbpaaDoor.P
open Go.RowKit Go.Proofs.YtepkgjcobocbpaaDoorW.PrintWords Go.Proofs.YtepkgjcobocbpaaDoorW.PrintLast Go.Proofs.YtepkgjcobocbpaaDoorW.PrintMore
attribute [local go_sem] max2_int min2_int max_two min_two max_three min_three max_four min_four   -- for this text's walks alone
set_option linter.unusedVariables false
set_option linter.unusedSimpArgs false

/-! ### spec_l3Node: function 32 -/
def spec_l3Node.l0:Nat→List (S47)→Int→List (S86)→List (S88)→Option (Int)
 | 0,_,_,_,_=>none
 | k+1,x1,x5,x162000,x162001=>if x5<(x162001.length:Int) then (if 0≤x5 then (if 0<(x1.length:Int) then (if ((rd_T88 x162001 x5).f0).toList=((rd_T47 x1 0).f2).toList then (if ((rd_T88 x162001 x5).f1)=((rd_T47 x1 0).f1) then (some ((rd_T88 x162001 x5).f2)) else (spec_l3Node.l0 k x1 (wrap64 (x5+1)) x162000 x162001)) else (spec_l3Node.l0 k x1 (wrap64 (x5+1)) x162000 x162001)) else (none)) else (none)) else (some 0)
def spec_l3Node.f (k:Nat) (l0_0:List (S86)) (l0_1:List (S88)) (l1:List (S47)):Option (Int):=spec_l3Node.l0 k l1 0 l0_0 l0_1
set_option maxHeartbeats 8000000 in
set_option maxRecDepth 100000 in
theorem spec_l3Node.calls (k:Nat) (A0_0:Option Addr) (c0_0:Nat) (l0_0:List (S86)) (A0_1:Option Addr) (c0_1:Nat) (l0_1:List (S88)) (A1:Option Addr) (c1:Nat) (l1:List (S47)) (r:Int) (w:World) (hr0_0:Kd.C k86 w A0_0 l0_0.length l0_0) (hc0_0:l0_0.length≤c0_0) (hr0_1:Kd.C k88 w A0_1 l0_1.length l0_1) (hc0_1:l0_1.length≤c0_1) (hr1:Kd.C k47 w A1 l1.length l1) (hc1:l1.length≤c1) (h:spec_l3Node.f k l0_0 l0_1 l1=some r) :
  Calls Tryd.prog 32 #[.agg #[.slice A0_0 l0_0.length c0_0,.slice A0_1 l0_1.length c0_1],.slice A1 l1.length c1] w fun e w'=>e = .returned (.int .i64 r)∧Below w.heap.size w w':=by
 have hu33:=Tryd.underlying33
 have HR0_0:=Aside0.mk hr0_0
 have HC0_0:=Aside0.mk hc0_0
 clear hr0_0 hc0_0
 have HR0_1:=Aside0.mk hr0_1
 have HC0_1:=Aside0.mk hc0_1
 clear hr0_1 hc0_1
 have HR1:=Aside0.mk hr1
 have HC1:=Aside0.mk hc1
 clear hr1 hc1
 have HB:=Aside0.mk (Below.refl w.heap.size w)
 have H:(spec_l3Node.l0 k l1 0 l0_0 l0_1)=some r:=h
 clear h
 have H':=Aside0.mk H
 clear H
 go_enter Tryd.func32,Tryd.ntmps32
 go_wp2_with (first|((with_reducible refine gate_dst (N:=2) rfl ?_);refine box_event ?hg (N:=2) ?hd (cs:=#[.slice A0_0 l0_0.length c0_0,.slice A0_1 l0_1.length c0_1]) (t:=33) ?hr ?_;(case hd=>rfl);(case hg=>rfl);(case hr=>first|(go_simp;done)|(go_simp;rfl));intro gb161 hg w3 hbox hb;have n0_:=Aside0.mk (below_step qz1 hb);have n1_:=Aside0.mk (hbox);have n2_:=Aside0.mk ((by rw [hg];exact (below_size qz1):w.heap.size≤gb161));have n3_:=Aside0.mk ((by rw [hg];exact (below_size qz1):w.heap.size≤gb161));clear HB;have HB:=n0_;have BK161:=n1_;have GW161:=n2_;have GE161:=n3_;clear n0_ n1_ n2_ n3_ hb hbox hg))
 repeat (go_quiet (first|((with_reducible refine gate_dst (N:=2) rfl ?_);refine box_event ?hg (N:=2) ?hd (cs:=#[.slice A0_0 l0_0.length c0_0,.slice A0_1 l0_1.length c0_1]) (t:=33) ?hr ?_;(case hd=>rfl);(case hg=>rfl);(case hr=>first|(go_simp;done)|(go_simp;rfl));intro gb161 hg w3 hbox hb;have n0_:=Aside0.mk (below_step qz1 hb);have n1_:=Aside0.mk (hbox);have n2_:=Aside0.mk ((by rw [hg];exact (below_size qz1):w.heap.size≤gb161));have n3_:=Aside0.mk ((by rw [hg];exact (below_size qz1):w.heap.size≤gb161));clear HB;have HB:=n0_;have BK161:=n1_;have GW161:=n2_;have GE161:=n3_;clear n0_ n1_ n2_ n3_ hb hbox hg));try go_wp2_with (first|((with_reducible refine gate_dst (N:=2) rfl ?_);refine box_event ?hg (N:=2) ?hd (cs:=#[.slice A0_0 l0_0.length c0_0,.slice A0_1 l0_1.length c0_1]) (t:=33) ?hr ?_;(case hd=>rfl);(case hg=>rfl);(case hr=>first|(go_simp;done)|(go_simp;rfl));intro gb161 hg w3 hbox hb;have n0_:=Aside0.mk (below_step qz1 hb);have n1_:=Aside0.mk (hbox);have n2_:=Aside0.mk ((by rw [hg];exact (below_size qz1):w.heap.size≤gb161));have n3_:=Aside0.mk ((by rw [hg];exact (below_size qz1):w.heap.size≤gb161));clear HB;have HB:=n0_;have BK161:=n1_;have GW161:=n2_;have GE161:=n3_;clear n0_ n1_ n2_ n3_ hb hbox hg)))
 go_loopg [5] k (fun kq v5 w'=>∃ (x5_1:Int),v5 = .int .i64 x5_1∧Aside0 (spec_l3Node.l0 kq l1 x5_1 l0_0 l0_1=some r)∧Aside0 (kq≤k)∧Aside0 (w'.heap[gb161]?=some (.cells #[(.slice A0_0 l0_0.length c0_0),(.slice A0_1 l0_1.length c0_1)] 33 (0,0)))∧Aside0 (Below w.heap.size w w'))
 case atStart=>exact ⟨(0),qz12,H',⟨Nat.le_refl _⟩,⟨qz143⟩,⟨qz86⟩⟩
 case round=>
  clear H'
  try clear c1
  try clear p2
  try clear c3
  obtain ⟨x5_1,rfl,HA,HK1,BK161,HB⟩:=hrel
  cases gk with
  | zero=>exact absurd HA.out (by simp [spec_l3Node.l0])
  | succ k1=>
   have H:=HA.out
   clear HA
   simp only [spec_l3Node.l0] at H
   by_cases c4:x5_1<(l0_1.length:Int)
   ·rw [if_pos c4] at H
    have c4b0:decide (x5_1<(l0_1.length:Int))=true:=decide_eq_true c4
    clear c4
    by_cases c5:0≤x5_1
    ·rw [if_pos c5] at H
     have c5b0:decide (0≤x5_1)=true:=decide_eq_true c5
     clear c5
     by_cases c6:0<(l1.length:Int)
     ·rw [if_pos c6] at H
      have c6b0:decide (0<(l1.length:Int))=true:=decide_eq_true c6
      have c6b1:decide (0<l1.length)=true:=decide_eq_true (by omega)
      clear c6
      by_cases c7:((rd_T88 l0_1 x5_1).f0).toList=((rd_T47 l1 0).f2).toList
      ·rw [if_pos c7] at H
       have c7b0:(((rd_T88 l0_1 x5_1).f0).toList == ((rd_T47 l1 0).f2).toList)=true:=beq_iff_eq.mpr c7
       have c7b1:(((rd_T88 l0_1 x5_1).f0).toList != ((rd_T47 l1 0).f2).toList)=false:=bne_eq_false_iff_eq.mpr c7
       clear c7
       by_cases c8:((rd_T88 l0_1 x5_1).f1)=((rd_T47 l1 0).f1)
       ·rw [if_pos c8] at H
        have c8b0:(((rd_T88 l0_1 x5_1).f1) == ((rd_T47 l1 0).f1))=true:=beq_iff_eq.mpr c8
        have c8b1:(((rd_T88 l0_1 x5_1).f1) != ((rd_T47 l1 0).f1))=false:=bne_eq_false_iff_eq.mpr c8
        clear c8
        obtain rfl:=Option.some.inj H
        have hcz9_0:wr.cell? ⟨gb161,0,none⟩=some (.slice A0_0 l0_0.length c0_0):=(blk_cell BK161.out 0).trans rfl
        have hcz9_1:wr.cell? ⟨gb161,1,none⟩=some (.slice A0_1 l0_1.length c0_1):=(blk_cell BK161.out 1).trans rfl
        have hfz9_0:=blk_frozen BK161.out 0
        have hfz9_1:=blk_frozen BK161.out 1
        have p162:0≤(x5_1:Int):=of_decide_eq_true qz7
        have q162:x5_1<(l0_1.length:Int):=of_decide_eq_true qz7
        obtain ⟨ad162,e162,hx162_0,hx162_1,hx162_2⟩:=at_T88 HR0_1.out x5_1 p162 q162
        cases e162
        replace hx162_0:=(HB.out.cell (World.block_lt_of_cell? w _ hx162_0)).trans hx162_0
        replace hx162_1:=(HB.out.cell (World.block_lt_of_cell? w _ hx162_1)).trans hx162_1
        replace hx162_2:=(HB.out.cell (World.block_lt_of_cell? w _ hx162_2)).trans hx162_2
        replace p162:=eq_true p162
        replace q162:=eq_true q162
        have p163:0≤(0:Int):=(by omega)
        have q163:0<(l1.length:Int):=of_decide_eq_true qz7
        obtain ⟨ad163,e163,hx163_0,hx163_1,hx163_2⟩:=at_T47 HR1.out 0 p163 q163
        cases e163
        have qi163:(0<l1.length)=True:=eq_true (by omega)
        (try rw [show ((0:Int)).toNat=0 from rfl] at hx163_0)
        (try rw [show 0 * 3=0 from rfl] at hx163_0)
        (try rw [Addr.add_zero'] at hx163_0)
        (try rw [show ((0:Int)).toNat=0 from rfl] at hx163_1)
        (try rw [show 0 * 3=0 from rfl] at hx163_1)
        (try rw [Addr.add_zero'] at hx163_1)
        (try rw [show ((0:Int)).toNat=0 from rfl] at hx163_2)
        (try rw [show 0 * 3=0 from rfl] at hx163_2)
        (try rw [Addr.add_zero'] at hx163_2)
        replace hx163_0:=(HB.out.cell (World.block_lt_of_cell? w _ hx163_0)).trans hx163_0
        replace hx163_1:=(HB.out.cell (World.block_lt_of_cell? w _ hx163_1)).trans hx163_1
        replace hx163_2:=(HB.out.cell (World.block_lt_of_cell? w _ hx163_2)).trans hx163_2
        replace p163:=eq_true p163
        replace q163:=eq_true q163
        have p164:0≤(x5_1:Int):=of_decide_eq_true qz7
        have q164:x5_1<(l0_1.length:Int):=of_decide_eq_true qz7
        obtain ⟨ad164,e164,hx164_0,hx164_1,hx164_2⟩:=at_T88 HR0_1.out x5_1 p164 q164
        obtain rfl:ad162=ad164:=(by injection e164)
        replace hx164_0:=(HB.out.cell (World.block_lt_of_cell? w _ hx164_0)).trans hx164_0
        replace hx164_1:=(HB.out.cell (World.block_lt_of_cell? w _ hx164_1)).trans hx164_1
        replace hx164_2:=(HB.out.cell (World.block_lt_of_cell? w _ hx164_2)).trans hx164_2
        replace p164:=eq_true p164
        replace q164:=eq_true q164
        have p165:0≤(0:Int):=(by omega)
        have q165:0<(l1.length:Int):=of_decide_eq_true qz7
        obtain ⟨ad165,e165,hx165_0,hx165_1,hx165_2⟩:=at_T47 HR1.out 0 p165 q165
        obtain rfl:ad163=ad165:=(by injection e165)
        have qi165:(0<l1.length)=True:=eq_true (by omega)
        (try rw [show ((0:Int)).toNat=0 from rfl] at hx165_0)
        (try rw [show 0 * 3=0 from rfl] at hx165_0)
        (try rw [Addr.add_zero'] at hx165_0)
        (try rw [show ((0:Int)).toNat=0 from rfl] at hx165_1)
        (try rw [show 0 * 3=0 from rfl] at hx165_1)
        (try rw [Addr.add_zero'] at hx165_1)
        (try rw [show ((0:Int)).toNat=0 from rfl] at hx165_2)
        (try rw [show 0 * 3=0 from rfl] at hx165_2)
        (try rw [Addr.add_zero'] at hx165_2)
        replace hx165_0:=(HB.out.cell (World.block_lt_of_cell? w _ hx165_0)).trans hx165_0
        replace hx165_1:=(HB.out.cell (World.block_lt_of_cell? w _ hx165_1)).trans hx165_1
        replace hx165_2:=(HB.out.cell (World.block_lt_of_cell? w _ hx165_2)).trans hx165_2
        replace p165:=eq_true p165
        replace q165:=eq_true q165
        have p166:0≤(x5_1:Int):=of_decide_eq_true qz7
        have q166:x5_1<(l0_1.length:Int):=of_decide_eq_true qz7
        obtain ⟨ad166,e166,hx166_0,hx166_1,hx166_2⟩:=at_T88 HR0_1.out x5_1 p166 q166
        obtain rfl:ad162=ad166:=(by injection e166)
        replace hx166_0:=(HB.out.cell (World.block_lt_of_cell? w _ hx166_0)).trans hx166_0
        replace hx166_1:=(HB.out.cell (World.block_lt_of_cell? w _ hx166_1)).trans hx166_1
        replace hx166_2:=(HB.out.cell (World.block_lt_of_cell? w _ hx166_2)).trans hx166_2
        replace p166:=eq_true p166
        replace q166:=eq_true q166
        go_wp2
        repeat (go_quiet (fail);try go_wp2)
        go_ret
        exact ⟨qz3,qz86⟩
       ·rw [if_neg c8] at H
        have c8b0:(((rd_T88 l0_1 x5_1).f1) == ((rd_T47 l1 0).f1))=false:=beq_eq_false_iff_ne.mpr c8
        have c8b1:(((rd_T88 l0_1 x5_1).f1) != ((rd_T47 l1 0).f1))=true:=bne_iff_ne.mpr c8
        have H':=Aside0.mk H
        clear H
        have hcz10_0:wr.cell? ⟨gb161,0,none⟩=some (.slice A0_0 l0_0.length c0_0):=(blk_cell BK161.out 0).trans rfl
        have hcz10_1:wr.cell? ⟨gb161,1,none⟩=some (.slice A0_1 l0_1.length c0_1):=(blk_cell BK161.out 1).trans rfl
        have hfz10_0:=blk_frozen BK161.out 0
        have hfz10_1:=blk_frozen BK161.out 1
        have p162:0≤(x5_1:Int):=of_decide_eq_true qz7
        have q162:x5_1<(l0_1.length:Int):=of_decide_eq_true qz7
        obtain ⟨ad162,e162,hx162_0,hx162_1,hx162_2⟩:=at_T88 HR0_1.out x5_1 p162 q162
        cases e162
        replace hx162_0:=(HB.out.cell (World.block_lt_of_cell? w _ hx162_0)).trans hx162_0
        replace hx162_1:=(HB.out.cell (World.block_lt_of_cell? w _ hx162_1)).trans hx162_1
        replace hx162_2:=(HB.out.cell (World.block_lt_of_cell? w _ hx162_2)).trans hx162_2
        replace p162:=eq_true p162
        replace q162:=eq_true q162
        have p163:0≤(0:Int):=(by omega)
        have q163:0<(l1.length:Int):=of_decide_eq_true qz7
        obtain ⟨ad163,e163,hx163_0,hx163_1,hx163_2⟩:=at_T47 HR1.out 0 p163 q163
        cases e163
        have qi163:(0<l1.length)=True:=eq_true (by omega)
        (try rw [show ((0:Int)).toNat=0 from rfl] at hx163_0)
        (try rw [show 0 * 3=0 from rfl] at hx163_0)
        (try rw [Addr.add_zero'] at hx163_0)
        (try rw [show ((0:Int)).toNat=0 from rfl] at hx163_1)
        (try rw [show 0 * 3=0 from rfl] at hx163_1)
        (try rw [Addr.add_zero'] at hx163_1)
        (try rw [show ((0:Int)).toNat=0 from rfl] at hx163_2)
        (try rw [show 0 * 3=0 from rfl] at hx163_2)
        (try rw [Addr.add_zero'] at hx163_2)
        replace hx163_0:=(HB.out.cell (World.block_lt_of_cell? w _ hx163_0)).trans hx163_0
        replace hx163_1:=(HB.out.cell (World.block_lt_of_cell? w _ hx163_1)).trans hx163_1
        replace hx163_2:=(HB.out.cell (World.block_lt_of_cell? w _ hx163_2)).trans hx163_2
        replace p163:=eq_true p163
        replace q163:=eq_true q163
        have p164:0≤(x5_1:Int):=of_decide_eq_true qz7
        have q164:x5_1<(l0_1.length:Int):=of_decide_eq_true qz7
        obtain ⟨ad164,e164,hx164_0,hx164_1,hx164_2⟩:=at_T88 HR0_1.out x5_1 p164 q164
        obtain rfl:ad162=ad164:=(by injection e164)
        replace hx164_0:=(HB.out.cell (World.block_lt_of_cell? w _ hx164_0)).trans hx164_0
        replace hx164_1:=(HB.out.cell (World.block_lt_of_cell? w _ hx164_1)).trans hx164_1
        replace hx164_2:=(HB.out.cell (World.block_lt_of_cell? w _ hx164_2)).trans hx164_2
        replace p164:=eq_true p164
        replace q164:=eq_true q164
        have p165:0≤(0:Int):=(by omega)
        have q165:0<(l1.length:Int):=of_decide_eq_true qz7
        obtain ⟨ad165,e165,hx165_0,hx165_1,hx165_2⟩:=at_T47 HR1.out 0 p165 q165
        obtain rfl:ad163=ad165:=(by injection e165)
        have qi165:(0<l1.length)=True:=eq_true (by omega)
        (try rw [show ((0:Int)).toNat=0 from rfl] at hx165_0)
        (try rw [show 0 * 3=0 from rfl] at hx165_0)
        (try rw [Addr.add_zero'] at hx165_0)
        (try rw [show ((0:Int)).toNat=0 from rfl] at hx165_1)
        (try rw [show 0 * 3=0 from rfl] at hx165_1)
        (try rw [Addr.add_zero'] at hx165_1)
        (try rw [show ((0:Int)).toNat=0 from rfl] at hx165_2)
        (try rw [show 0 * 3=0 from rfl] at hx165_2)
        (try rw [Addr.add_zero'] at hx165_2)
        replace hx165_0:=(HB.out.cell (World.block_lt_of_cell? w _ hx165_0)).trans hx165_0
        replace hx165_1:=(HB.out.cell (World.block_lt_of_cell? w _ hx165_1)).trans hx165_1
        replace hx165_2:=(HB.out.cell (World.block_lt_of_cell? w _ hx165_2)).trans hx165_2
        replace p165:=eq_true p165
        replace q165:=eq_true q165
        go_wp2
        repeat (go_quiet (fail);try go_wp2)
        go_roundg k1
        case measure=>have:=HK1.out;omega
        case rel=>exact ⟨(wrap64 (x5_1+1)),qz12,H',⟨by have:=HK1.out;omega⟩,⟨qz143⟩,⟨qz86⟩⟩
      ·rw [if_neg c7] at H
       have c7b0:(((rd_T88 l0_1 x5_1).f0).toList == ((rd_T47 l1 0).f2).toList)=false:=beq_eq_false_iff_ne.mpr c7
       have c7b1:(((rd_T88 l0_1 x5_1).f0).toList != ((rd_T47 l1 0).f2).toList)=true:=bne_iff_ne.mpr c7
       have H':=Aside0.mk H
       clear H
       have hcz11_0:wr.cell? ⟨gb161,0,none⟩=some (.slice A0_0 l0_0.length c0_0):=(blk_cell BK161.out 0).trans rfl
       have hcz11_1:wr.cell? ⟨gb161,1,none⟩=some (.slice A0_1 l0_1.length c0_1):=(blk_cell BK161.out 1).trans rfl
       have hfz11_0:=blk_frozen BK161.out 0
       have hfz11_1:=blk_frozen BK161.out 1
       have p162:0≤(x5_1:Int):=of_decide_eq_true qz7
       have q162:x5_1<(l0_1.length:Int):=of_decide_eq_true qz7
       obtain ⟨ad162,e162,hx162_0,hx162_1,hx162_2⟩:=at_T88 HR0_1.out x5_1 p162 q162
       cases e162
       replace hx162_0:=(HB.out.cell (World.block_lt_of_cell? w _ hx162_0)).trans hx162_0
       replace hx162_1:=(HB.out.cell (World.block_lt_of_cell? w _ hx162_1)).trans hx162_1
       replace hx162_2:=(HB.out.cell (World.block_lt_of_cell? w _ hx162_2)).trans hx162_2
       replace p162:=eq_true p162
       replace q162:=eq_true q162
       have p163:0≤(0:Int):=(by omega)
       have q163:0<(l1.length:Int):=of_decide_eq_true qz7
       obtain ⟨ad163,e163,hx163_0,hx163_1,hx163_2⟩:=at_T47 HR1.out 0 p163 q163
       cases e163
       have qi163:(0<l1.length)=True:=eq_true (by omega)
       (try rw [show ((0:Int)).toNat=0 from rfl] at hx163_0)
       (try rw [show 0 * 3=0 from rfl] at hx163_0)
       (try rw [Addr.add_zero'] at hx163_0)
       (try rw [show ((0:Int)).toNat=0 from rfl] at hx163_1)
       (try rw [show 0 * 3=0 from rfl] at hx163_1)
       (try rw [Addr.add_zero'] at hx163_1)
       (try rw [show ((0:Int)).toNat=0 from rfl] at hx163_2)
       (try rw [show 0 * 3=0 from rfl] at hx163_2)
       (try rw [Addr.add_zero'] at hx163_2)
       replace hx163_0:=(HB.out.cell (World.block_lt_of_cell? w _ hx163_0)).trans hx163_0
       replace hx163_1:=(HB.out.cell (World.block_lt_of_cell? w _ hx163_1)).trans hx163_1
       replace hx163_2:=(HB.out.cell (World.block_lt_of_cell? w _ hx163_2)).trans hx163_2
       replace p163:=eq_true p163
       replace q163:=eq_true q163
       go_wp2
       repeat (go_quiet (fail);try go_wp2)
       go_roundg k1
       case measure=>have:=HK1.out;omega
       case rel=>exact ⟨(wrap64 (x5_1+1)),qz12,H',⟨by have:=HK1.out;omega⟩,⟨qz143⟩,⟨qz86⟩⟩
     ·rw [if_neg c6] at H
      exact absurd H (by simp)
    ·rw [if_neg c5] at H
     exact absurd H (by simp)
   ·rw [if_neg c4] at H
    have c4b0:decide (x5_1<(l0_1.length:Int))=false:=decide_eq_false c4
    clear c4
    obtain rfl:=Option.some.inj H
    have hcz12_0:wr.cell? ⟨gb161,0,none⟩=some (.slice A0_0 l0_0.length c0_0):=(blk_cell BK161.out 0).trans rfl
    have hcz12_1:wr.cell? ⟨gb161,1,none⟩=some (.slice A0_1 l0_1.length c0_1):=(blk_cell BK161.out 1).trans rfl
    have hfz12_0:=blk_frozen BK161.out 0
    have hfz12_1:=blk_frozen BK161.out 1
    go_wp2
    repeat (go_quiet (fail);try go_wp2)
    go_ret
    exact ⟨qz3,qz86⟩

/-! ### spec_PrgNode: function 8 -/
def spec_PrgNode.j0:Nat→List (S47)→Bool→List (S86)→List (S88)→Option (Int)
 | 0,_,_,_,_=>none
 | k+1,x1,x17,x168000,x168001=>if x17=true then (some (-1)) else ((spec_l3Node.f k x168000 x168001 x1).bind fun t171=>(some t171))
def spec_PrgNode.f (k:Nat) (l0_0:List (S86)) (l0_1:List (S88)) (l1:List (S47)):Option (Int):=(spec_PrgOk.f k l0_0 l0_1).bind fun t168=>(if t168=true then ((spec_TrmOk.f k l1).bind fun t169=>(if t169=true then ((spec_l3Call.f l1).bind fun t170=>(spec_PrgNode.j0 k l1 (!t170) l0_0 l0_1)) else (spec_PrgNode.j0 k l1 true l0_0 l0_1))) else (spec_PrgNode.j0 k l1 true l0_0 l0_1))
set_option maxHeartbeats 8000000 in
set_option maxRecDepth 100000 in
theorem spec_PrgNode.calls (k:Nat) (A0_0:Option Addr) (c0_0:Nat) (l0_0:List (S86)) (A0_1:Option Addr) (c0_1:Nat) (l0_1:List (S88)) (A1:Option Addr) (c1:Nat) (l1:List (S47)) (r:Int) (w:World) (hr0_0:Kd.C k86 w A0_0 l0_0.length l0_0) (hc0_0:l0_0.length≤c0_0) (hr0_1:Kd.C k88 w A0_1 l0_1.length l0_1) (hc0_1:l0_1.length≤c0_1) (hr1:Kd.C k47 w A1 l1.length l1) (hc1:l1.length≤c1) (h:spec_PrgNode.f k l0_0 l0_1 l1=some r) :
  Calls Tryd.prog 8 #[.agg #[.slice A0_0 l0_0.length c0_0,.slice A0_1 l0_1.length c0_1],.slice A1 l1.length c1] w fun e w'=>e = .returned (.int .i64 r)∧Below w.heap.size w w':=by
 have hu33:=Tryd.underlying33
 have HR0_0:=Aside0.mk hr0_0
 have HC0_0:=Aside0.mk hc0_0
 clear hr0_0 hc0_0
 have HR0_1:=Aside0.mk hr0_1
 have HC0_1:=Aside0.mk hc0_1
 clear hr0_1 hc0_1
 have HR1:=Aside0.mk hr1
 have HC1:=Aside0.mk hc1
 clear hr1 hc1
 have HB:=Aside0.mk (Below.refl w.heap.size w)
 have H:((spec_PrgOk.f k l0_0 l0_1).bind fun t168=>(if t168=true then ((spec_TrmOk.f k l1).bind fun t169=>(if t169=true then ((spec_l3Call.f l1).bind fun t170=>(spec_PrgNode.j0 k l1 (!t170) l0_0 l0_1)) else (spec_PrgNode.j0 k l1 true l0_0 l0_1))) else (spec_PrgNode.j0 k l1 true l0_0 l0_1)))=some r:=h
 clear h
 have HC3:=Aside0.mk H
 clear H
 go_enter Tryd.func8,Tryd.ntmps8
 go_upto_region 1 with (first|((with_reducible refine gate_dst (N:=2) rfl ?_);refine box_event ?hg (N:=2) ?hd (cs:=#[.slice A0_0 l0_0.length c0_0,.slice A0_1 l0_1.length c0_1]) (t:=33) ?hr ?_;(case hd=>rfl);(case hg=>rfl);(case hr=>first|(go_simp;done)|(go_simp;rfl));intro gb167 hg w4 hbox hb;have n0_:=Aside0.mk (below_step qz1 hb);have n1_:=Aside0.mk (hbox);have n2_:=Aside0.mk ((by rw [hg];exact (below_size qz1):w.heap.size≤gb167));have n3_:=Aside0.mk ((by rw [hg];exact (below_size qz1):w.heap.size≤gb167));clear HB;have HB:=n0_;have BK167:=n1_;have GW167:=n2_;have GE167:=n3_;clear n0_ n1_ n2_ n3_ hb hbox hg))
 (try simp only [Act.put,List.setIfInBounds_toArray,List.set_cons_zero,List.set_cons_succ])
 go_cut [17] (fun v17 wc=>∃ (kq:Nat) (x17_2:Bool),v17 = .bool x17_2∧Aside0 (spec_PrgNode.j0 kq l1 x17_2 l0_0 l0_1=some r)∧Aside0 (kq≤k)∧Aside0 (wc.heap[gb167]?=some (.cells #[(.slice A0_0 l0_0.length c0_0),(.slice A0_1 l0_1.length c0_1)] 33 (0,0)))∧Aside0 (Below w.heap.size w wc))
 case first=>
  have H:=HC3.out
  clear HC3
  replace H:=Option.bind_eq_some_iff.mp H
  obtain ⟨t168,A50,H⟩:=H
  try dsimp only at H
  have A5:=Aside0.mk A50
  clear A50
  by_cases c6:t168=true
  ·subst c6
   have H1:((spec_TrmOk.f k l1).bind fun t169=>(if t169=true then ((spec_l3Call.f l1).bind fun t170=>(spec_PrgNode.j0 k l1 (!t170) l0_0 l0_1)) else (spec_PrgNode.j0 k l1 true l0_0 l0_1)))=some r:=qz51
   clear H
   have H:=H1
   clear H1
   replace H:=Option.bind_eq_some_iff.mp H
   obtain ⟨t169,A70,H⟩:=H
   try dsimp only at H
   have A7:=Aside0.mk A70
   clear A70
   by_cases c8:t169=true
   ·subst c8
    have H1:((spec_l3Call.f l1).bind fun t170=>(spec_PrgNode.j0 k l1 (!t170) l0_0 l0_1))=some r:=qz51
    clear H
    have H:=H1
    clear H1
    replace H:=Option.bind_eq_some_iff.mp H
    obtain ⟨t170,A90,H⟩:=H
    try dsimp only at H
    have A9:=Aside0.mk A90
    clear A90
    have H':=Aside0.mk H
    clear H
    have hcz10_0:w4.cell? ⟨gb167,0,none⟩=some (.slice A0_0 l0_0.length c0_0):=(blk_cell BK167.out 0).trans rfl
    have hcz10_1:w4.cell? ⟨gb167,1,none⟩=some (.slice A0_1 l0_1.length c0_1):=(blk_cell BK167.out 1).trans rfl
    have hfz10_0:=blk_frozen BK167.out 0
    have hfz10_1:=blk_frozen BK167.out 1
    go_wp2_with (first|((with_reducible refine gate_callee (f:=29) rfl ?_);refine goesL_ (some 6) rfl rfl Tryd.func29 (by kernel_rfl) rfl #[.agg #[.slice A0_0 l0_0.length c0_0,.slice A0_1 l0_1.length c0_1]] rfl qz2 ?_;(with_reducible refine (spec_PrgOk.calls k _ _ l0_0 _ _ l0_1 true _ ?side1 ?side2 ?side3 ?side4 A5.out).mono ?_);(case side1=>exact qz8);(case side2=>exact HC0_0.out);(case side3=>exact qz5);(case side4=>exact HC0_1.out);rintro e w11 ⟨rfl,hb⟩;refine ⟨_,rfl,?_⟩;have n0_:=Aside0.mk (blk_below (g:=gb167) (o:=.cells #[.slice A0_0 l0_0.length c0_0,.slice A0_1 l0_1.length c0_1] 33 (0,0)) qz77 hb);have n1_:=Aside0.mk (below_step qz46 hb);clear BK167 HB;have BK167:=n0_;have HB:=n1_;clear n0_ n1_;(try clear hb);(try clear hb2);(try clear hk);(try clear hi))|(go_at_call 30;(with_reducible refine (spec_TrmOk.calls k _ _ l1 true _ ?side1 ?side2 A7.out).mono ?_);(case side1=>exact qz26);(case side2=>exact HC1.out);rintro e w12 ⟨rfl,hb⟩;have n0_:=Aside0.mk (blk_below (g:=gb167) (o:=.cells #[.slice A0_0 l0_0.length c0_0,.slice A0_1 l0_1.length c0_1] 33 (0,0)) qz77 hb);have n1_:=Aside0.mk (below_step qz46 hb);clear BK167 HB;have BK167:=n0_;have HB:=n1_;clear n0_ n1_;(try clear hb);(try clear hb2);(try clear hk);(try clear hi))|(go_at_call 31;(with_reducible refine (spec_l3Call.calls _ _ l1 t170 _ ?side1 ?side2 A9.out).mono ?_);(case side1=>exact qz26);(case side2=>exact HC1.out);rintro e w' ⟨rfl,⟨nd,rfl⟩⟩))
    go_meet
    case rel=>exact ⟨_,(!t170),qz12,H',⟨qz99⟩,⟨qz77⟩,⟨qz46⟩⟩
   ·replace c8:=Bool.eq_false_iff.mpr c8
    subst c8
    have H1:(spec_PrgNode.j0 k l1 true l0_0 l0_1)=some r:=qz23
    clear H
    have H:=H1
    clear H1
    have H':=Aside0.mk H
    clear H
    have hcz13_0:w4.cell? ⟨gb167,0,none⟩=some (.slice A0_0 l0_0.length c0_0):=(blk_cell BK167.out 0).trans rfl
    have hcz13_1:w4.cell? ⟨gb167,1,none⟩=some (.slice A0_1 l0_1.length c0_1):=(blk_cell BK167.out 1).trans rfl
    have hfz13_0:=blk_frozen BK167.out 0
    have hfz13_1:=blk_frozen BK167.out 1
    go_wp2_with (first|((with_reducible refine gate_callee (f:=29) rfl ?_);refine goesL_ (some 6) rfl rfl Tryd.func29 (by kernel_rfl) rfl #[.agg #[.slice A0_0 l0_0.length c0_0,.slice A0_1 l0_1.length c0_1]] rfl qz2 ?_;(with_reducible refine (spec_PrgOk.calls k _ _ l0_0 _ _ l0_1 true _ ?side1 ?side2 ?side3 ?side4 A5.out).mono ?_);(case side1=>exact qz8);(case side2=>exact HC0_0.out);(case side3=>exact qz5);(case side4=>exact HC0_1.out);rintro e w14 ⟨rfl,hb⟩;refine ⟨_,rfl,?_⟩;have n0_:=Aside0.mk (blk_below (g:=gb167) (o:=.cells #[.slice A0_0 l0_0.length c0_0,.slice A0_1 l0_1.length c0_1] 33 (0,0)) qz77 hb);have n1_:=Aside0.mk (below_step qz46 hb);clear BK167 HB;have BK167:=n0_;have HB:=n1_;clear n0_ n1_;(try clear hb);(try clear hb2);(try clear hk);(try clear hi))|(go_at_call 30;(with_reducible refine (spec_TrmOk.calls k _ _ l1 false _ ?side1 ?side2 A7.out).mono ?_);(case side1=>exact qz26);(case side2=>exact HC1.out);rintro e w15 ⟨rfl,hb⟩;have n0_:=Aside0.mk (blk_below (g:=gb167) (o:=.cells #[.slice A0_0 l0_0.length c0_0,.slice A0_1 l0_1.length c0_1] 33 (0,0)) qz77 hb);have n1_:=Aside0.mk (below_step qz46 hb);clear BK167 HB;have BK167:=n0_;have HB:=n1_;clear n0_ n1_;(try clear hb);(try clear hb2);(try clear hk);(try clear hi)))
    go_meet
    case rel=>exact ⟨_,(true),qz12,H',⟨qz99⟩,⟨qz77⟩,⟨qz46⟩⟩
  ·replace c6:=Bool.eq_false_iff.mpr c6
   subst c6
   have H1:(spec_PrgNode.j0 k l1 true l0_0 l0_1)=some r:=qz23
   clear H
   have H:=H1
   clear H1
   have H':=Aside0.mk H
   clear H
   have hcz16_0:w4.cell? ⟨gb167,0,none⟩=some (.slice A0_0 l0_0.length c0_0):=(blk_cell BK167.out 0).trans rfl
   have hcz16_1:w4.cell? ⟨gb167,1,none⟩=some (.slice A0_1 l0_1.length c0_1):=(blk_cell BK167.out 1).trans rfl
   have hfz16_0:=blk_frozen BK167.out 0
   have hfz16_1:=blk_frozen BK167.out 1
   go_wp2_with (first|((with_reducible refine gate_callee (f:=29) rfl ?_);refine goesL_ (some 6) rfl rfl Tryd.func29 (by kernel_rfl) rfl #[.agg #[.slice A0_0 l0_0.length c0_0,.slice A0_1 l0_1.length c0_1]] rfl qz2 ?_;(with_reducible refine (spec_PrgOk.calls k _ _ l0_0 _ _ l0_1 false _ ?side1 ?side2 ?side3 ?side4 A5.out).mono ?_);(case side1=>exact qz8);(case side2=>exact HC0_0.out);(case side3=>exact qz5);(case side4=>exact HC0_1.out);rintro e w17 ⟨rfl,hb⟩;refine ⟨_,rfl,?_⟩;have n0_:=Aside0.mk (blk_below (g:=gb167) (o:=.cells #[.slice A0_0 l0_0.length c0_0,.slice A0_1 l0_1.length c0_1] 33 (0,0)) qz77 hb);have n1_:=Aside0.mk (below_step qz46 hb);clear BK167 HB;have BK167:=n0_;have HB:=n1_;clear n0_ n1_;(try clear hb);(try clear hb2);(try clear hk);(try clear hi)))
   go_meet
   case rel=>exact ⟨_,(true),qz12,H',⟨qz99⟩,⟨qz77⟩,⟨qz46⟩⟩
 case rest=>
  clear HC3
  try clear c1
  try clear c2
  try clear p2
  try clear c6
  try clear c8
  try clear hcz10_0
  try clear hcz10_1
  try clear hcz13_0
  try clear hcz13_1
  try clear hcz16_0
  try clear hcz16_1
  try clear hfz10_0
  try clear hfz10_1
  try clear hfz13_0
  try clear hfz13_1
  try clear hfz16_0
  try clear hfz16_1
  obtain ⟨kq,x17_2,rfl,HA,HJ2,BK167,HB⟩:=hcut
  cases kq with
  | zero=>exact absurd HA.out (by simp [spec_PrgNode.j0])
  | succ kj2=>
   have H:=HA.out
   clear HA
   simp only [spec_PrgNode.j0] at H
   by_cases c18:x17_2=true
   ·subst c18
    have H1:(some (-1))=some r:=qz51
    clear H
    have H:=H1
    clear H1
    obtain rfl:=Option.some.inj H
    go_wp2
    go_ret
    exact ⟨qz3,qz46⟩
   ·replace c18:=Bool.eq_false_iff.mpr c18
    subst c18
    have H1:((spec_l3Node.f kj2 l0_0 l0_1 l1).bind fun t171=>(some t171))=some r:=qz23
    clear H
    have H:=H1
    clear H1
    replace H:=Option.bind_eq_some_iff.mp H
    obtain ⟨t171,A190,H⟩:=H
    try dsimp only at H
    have A19:=Aside0.mk A190
    clear A190
    obtain rfl:=Option.some.inj H
    have hcz20_0:wc.cell? ⟨gb167,0,none⟩=some (.slice A0_0 l0_0.length c0_0):=(blk_cell BK167.out 0).trans rfl
    have hcz20_1:wc.cell? ⟨gb167,1,none⟩=some (.slice A0_1 l0_1.length c0_1):=(blk_cell BK167.out 1).trans rfl
    have hfz20_0:=blk_frozen BK167.out 0
    have hfz20_1:=blk_frozen BK167.out 1
    go_wp2_with (first|((with_reducible refine gate_callee (f:=32) rfl ?_);refine goesL_ (some 20) rfl rfl Tryd.func32 (by kernel_rfl) rfl #[.agg #[.slice A0_0 l0_0.length c0_0,.slice A0_1 l0_1.length c0_1],.slice A1 l1.length c1] rfl qz2 ?_;(with_reducible refine (spec_l3Node.calls kj2 _ _ l0_0 _ _ l0_1 _ _ l1 t171 _ ?side1 ?side2 ?side3 ?side4 ?side5 ?side6 A19.out).mono ?_);(case side1=>exact qz8);(case side2=>exact HC0_0.out);(case side3=>exact qz5);(case side4=>exact HC0_1.out);(case side5=>exact qz26);(case side6=>exact HC1.out);rintro e w21 ⟨rfl,hb⟩;refine ⟨_,rfl,?_⟩;have n0_:=Aside0.mk (blk_below (g:=gb167) (o:=.cells #[.slice A0_0 l0_0.length c0_0,.slice A0_1 l0_1.length c0_1] 33 (0,0)) qz77 hb);have n1_:=Aside0.mk (below_step qz46 hb);clear BK167 HB;have BK167:=n0_;have HB:=n1_;clear n0_ n1_;(try clear hb);(try clear hb2);(try clear hk);(try clear hi)))
    go_ret
    exact ⟨qz3,qz46⟩

/-! ### impl_in: function 58 -/
def impl_in.f (a0:Int) (a1:Int) (a2:Int):Option (Bool):=if a0≥a1 then (some (decide (a0≤a2))) else (some false)
set_option maxHeartbeats 8000000 in
set_option maxRecDepth 100000 in
theorem impl_in.calls (a0:Int) (a1:Int) (a2:Int) (r:Bool) (w:World) (h:impl_in.f a0 a1 a2=some r) :
  Calls Tryd.prog 58 #[.int .i64 a0,.int .i64 a1,.int .i64 a2] w fun e w'=>e = .returned (.bool r)∧Drawn0 w w':=by
 have H:(if a0≥a1 then (some (decide (a0≤a2))) else (some false))=some r:=h
 clear h
 by_cases c4:a0≥a1
 ·rw [if_pos c4] at H
  have c4b0:decide (a1≤a0)=true:=decide_eq_true c4
  clear c4
  obtain rfl:=Option.some.inj H
  go_enter Tryd.func58,Tryd.ntmps58
  go_wp2
  go_ret
  exact ⟨qz12,qz69⟩
 ·rw [if_neg c4] at H
  have c4b0:decide (a1≤a0)=false:=decide_eq_false c4
  clear c4
  obtain rfl:=Option.some.inj H
  go_enter Tryd.func58,Tryd.ntmps58
  go_wp2
  go_ret
  exact ⟨qz12,qz69⟩

/-! ### strings_Trim: function 78 -/
/-- strings.Trim at an ASCII cutset: the shelf's. -/
def strings_Trim.f (a0:ByteArray) (a1:ByteArray):Option (ByteArray):=if a0.size≤9223372036854775807 then (if a1.size<4294967281 then (if a1.data.toList.all (fun b=>decide (b.toNat<128)) then some (⟨(Lib.trimS a0.data.toList a1.data.toList).toArray⟩:ByteArray) else none) else none) else none
theorem strings_Trim.calls (a0:ByteArray) (a1:ByteArray) (r:ByteArray) (w:World) (h:strings_Trim.f a0 a1=some r) :
  Calls Tryd.prog 78 #[.string a0,.string a1] w fun e w'=>e = .returned (.string r)∧Below w.heap.size w w':=by
 unfold strings_Trim.f at h
 by_cases h1:a0.size≤9223372036854775807
 case neg=>rw [if_neg h1] at h;cases h
 rw [if_pos h1] at h
 by_cases h2:a1.size<4294967281
 case neg=>rw [if_neg h2] at h;cases h
 rw [if_pos h2] at h
 by_cases h3:a1.data.toList.all (fun b=>decide (b.toNat<128))=true
 case neg=>rw [if_neg h3] at h;cases h
 rw [if_pos h3] at h
 obtain rfl:=Option.some.inj h
 refine Tryd.trim_set a0 a1 w h1 h2 ?_
 intro j b hj
 have:=List.all_eq_true.1 h3 b (List.mem_of_getElem? hj)
 simpa using this

/-! ### impl_nameOk: function 57 -/
def impl_nameOk.f (a0:ByteArray):Option (Bool):=(impl_in.f (a0.size:Int) 1 8).bind fun t250=>(if t250=true then ((strings_Trim.f a0 (⟨#[97,98,99,100,101,102,103,104,105,106,107,108,109,110,111,112,113,114,115,116,117,118,119,120,121,122]⟩:ByteArray)).bind fun t251=>(if t251.toList=([]:List UInt8) then (some (a0.toList != ([97,110,100]:List UInt8))) else (some false))) else (some false))
set_option maxHeartbeats 8000000 in
set_option maxRecDepth 100000 in
theorem impl_nameOk.calls (a0:ByteArray) (r:Bool) (w:World) (h:impl_nameOk.f a0=some r) :
  Calls Tryd.prog 57 #[.string a0] w fun e w'=>e = .returned (.bool r)∧Below w.heap.size w w':=by
 have HB:=Aside0.mk (Below.refl w.heap.size w)
 have H:((impl_in.f (a0.size:Int) 1 8).bind fun t250=>(if t250=true then ((strings_Trim.f a0 (⟨#[97,98,99,100,101,102,103,104,105,106,107,108,109,110,111,112,113,114,115,116,117,118,119,120,121,122]⟩:ByteArray)).bind fun t251=>(if t251.toList=([]:List UInt8) then (some (a0.toList != ([97,110,100]:List UInt8))) else (some false))) else (some false)))=some r:=h
 clear h
 replace H:=Option.bind_eq_some_iff.mp H
 obtain ⟨t250,A20,H⟩:=H
 try dsimp only at H
 have A2:=Aside0.mk A20
 clear A20
 by_cases c3:t250=true
 ·subst c3
  have H1:((strings_Trim.f a0 (⟨#[97,98,99,100,101,102,103,104,105,106,107,108,109,110,111,112,113,114,115,116,117,118,119,120,121,122]⟩:ByteArray)).bind fun t251=>(if t251.toList=([]:List UInt8) then (some (a0.toList != ([97,110,100]:List UInt8))) else (some false)))=some r:=qz51
  clear H
  have H:=H1
  clear H1
  replace H:=Option.bind_eq_some_iff.mp H
  obtain ⟨t251,A40,H⟩:=H
  try dsimp only at H
  have A4:=Aside0.mk A40
  clear A40
  by_cases c5:t251.toList=([]:List UInt8)
  ·rw [if_pos c5] at H
   have c5b0:(t251.toList == ([]:List UInt8))=true:=beq_iff_eq.mpr c5
   have c5b1:(t251.toList != ([]:List UInt8))=false:=bne_eq_false_iff_eq.mpr c5
   clear c5
   obtain rfl:=Option.some.inj H
   go_enter Tryd.func57,Tryd.ntmps57
   go_wp2_with (first|((with_reducible refine gate_callee (f:=58) rfl ?_);refine goesL_ (some 5) rfl rfl Tryd.func58 (by kernel_rfl) rfl #[.int .i64 (a0.size:Int),.int .i64 1,.int .i64 8] rfl qz2 ?_;(with_reducible refine (impl_in.calls (a0.size:Int) 1 8 true _ A2.out).mono ?_);rintro e w' ⟨rfl,⟨nd,rfl⟩⟩;refine ⟨_,rfl,?_⟩)|(go_at_call 78;(with_reducible refine (strings_Trim.calls a0 (⟨#[97,98,99,100,101,102,103,104,105,106,107,108,109,110,111,112,113,114,115,116,117,118,119,120,121,122]⟩:ByteArray) t251 _ A4.out).mono ?_);rintro e w6 ⟨rfl,hb⟩;have n0_:=Aside0.mk (below_step qz1 hb);clear HB;have HB:=n0_;clear n0_;(try clear hb);(try clear hb2);(try clear hk);(try clear hi)))
   go_ret
   exact ⟨qz3,qz4⟩
  ·rw [if_neg c5] at H
   have c5b0:(t251.toList == ([]:List UInt8))=false:=beq_eq_false_iff_ne.mpr c5
   have c5b1:(t251.toList != ([]:List UInt8))=true:=bne_iff_ne.mpr c5
   obtain rfl:=Option.some.inj H
   go_enter Tryd.func57,Tryd.ntmps57
   go_wp2_with (first|((with_reducible refine gate_callee (f:=58) rfl ?_);refine goesL_ (some 5) rfl rfl Tryd.func58 (by kernel_rfl) rfl #[.int .i64 (a0.size:Int),.int .i64 1,.int .i64 8] rfl qz2 ?_;(with_reducible refine (impl_in.calls (a0.size:Int) 1 8 true _ A2.out).mono ?_);rintro e w' ⟨rfl,⟨nd,rfl⟩⟩;refine ⟨_,rfl,?_⟩)|(go_at_call 78;(with_reducible refine (strings_Trim.calls a0 (⟨#[97,98,99,100,101,102,103,104,105,106,107,108,109,110,111,112,113,114,115,116,117,118,119,120,121,122]⟩:ByteArray) t251 _ A4.out).mono ?_);rintro e w7 ⟨rfl,hb⟩;have n0_:=Aside0.mk (below_step qz1 hb);clear HB;have HB:=n0_;clear n0_;(try clear hb);(try clear hb2);(try clear hk);(try clear hi)))
   go_ret
   exact ⟨qz3,qz4⟩
 ·replace c3:=Bool.eq_false_iff.mpr c3
  subst c3
  have H1:(some false)=some r:=qz23
  clear H
  have H:=H1
  clear H1
  obtain rfl:=Option.some.inj H
  go_enter Tryd.func57,Tryd.ntmps57
  go_wp2_with (first|((with_reducible refine gate_callee (f:=58) rfl ?_);refine goesL_ (some 5) rfl rfl Tryd.func58 (by kernel_rfl) rfl #[.int .i64 (a0.size:Int),.int .i64 1,.int .i64 8] rfl qz2 ?_;(with_reducible refine (impl_in.calls (a0.size:Int) 1 8 false _ A2.out).mono ?_);rintro e w' ⟨rfl,⟨nd,rfl⟩⟩;refine ⟨_,rfl,?_⟩))
  go_ret
  exact ⟨qz3,qz4⟩

/-! ### impl_TrmCell_ok: function 71 -/
def impl_TrmCell_ok.f (a0_0:Int) (a0_1:Int) (a0_2:ByteArray):Option (Bool):=if a0_0=1 then ((impl_in.f a0_1 0 99999).bind fun t253=>(if t253=true then (some (a0_2.toList == ([]:List UInt8))) else (some false))) else (if a0_0=2 then ((impl_in.f a0_1 (-9999) 9999).bind fun t254=>(if t254=true then (some (a0_2.toList == ([]:List UInt8))) else (some false))) else (if a0_0=3 then ((impl_in.f a0_1 0 3).bind fun t255=>(if t255=true then ((impl_nameOk.f a0_2).bind fun t256=>(some t256)) else (some false))) else (some false)))
set_option maxHeartbeats 8000000 in
set_option maxRecDepth 100000 in
theorem impl_TrmCell_ok.calls (a0_0:Int) (a0_1:Int) (a0_2:ByteArray) (r:Bool) (w:World) (h:impl_TrmCell_ok.f a0_0 a0_1 a0_2=some r) :
  Calls Tryd.prog 71 #[.agg #[.int .i64 a0_0,.int .i64 a0_1,.string a0_2]] w fun e w'=>e = .returned (.bool r)∧Below w.heap.size w w':=by
 have hu47:=Tryd.underlying47
 have HB:=Aside0.mk (Below.refl w.heap.size w)
 have H:(if a0_0=1 then ((impl_in.f a0_1 0 99999).bind fun t253=>(if t253=true then (some (a0_2.toList == ([]:List UInt8))) else (some false))) else (if a0_0=2 then ((impl_in.f a0_1 (-9999) 9999).bind fun t254=>(if t254=true then (some (a0_2.toList == ([]:List UInt8))) else (some false))) else (if a0_0=3 then ((impl_in.f a0_1 0 3).bind fun t255=>(if t255=true then ((impl_nameOk.f a0_2).bind fun t256=>(some t256)) else (some false))) else (some false))))=some r:=h
 clear h
 by_cases c2:a0_0=1
 ·rw [if_pos c2] at H
  have c2b0:(a0_0 == 1)=true:=beq_iff_eq.mpr c2
  have c2b1:(a0_0 != 1)=false:=bne_eq_false_iff_eq.mpr c2
  clear c2
  replace H:=Option.bind_eq_some_iff.mp H
  obtain ⟨t253,A30,H⟩:=H
  try dsimp only at H
  have A3:=Aside0.mk A30
  clear A30
  by_cases c4:t253=true
  ·subst c4
   have H1:(some (a0_2.toList == ([]:List UInt8)))=some r:=qz51
   clear H
   have H:=H1
   clear H1
   obtain rfl:=Option.some.inj H
   go_enter Tryd.func71,Tryd.ntmps71
   go_wp2_with (first|((with_reducible refine gate_dst (N:=1) rfl ?_);refine box_event ?hg (N:=1) ?hd (cs:=#[.int .i64 a0_0,.int .i64 a0_1,.string a0_2]) (t:=47) ?hr ?_;(case hd=>rfl);(case hg=>rfl);(case hr=>first|(go_simp;done)|(go_simp;rfl));intro gb252 hg w5 hbox hb;have n0_:=Aside0.mk (below_step qz1 hb);have n1_:=Aside0.mk (hbox);have n2_:=Aside0.mk ((by rw [hg];exact (below_size qz1):w.heap.size≤gb252));have n3_:=Aside0.mk ((by rw [hg];exact (below_size qz1):w.heap.size≤gb252));clear HB;have HB:=n0_;have BK252:=n1_;have GW252:=n2_;have GE252:=n3_;clear n0_ n1_ n2_ n3_ hb hbox hg;have hcz6_0:w5.cell? ⟨gb252,0,none⟩=some (.int .i64 a0_0):=(blk_cell BK252.out 0).trans rfl;have hcz6_1:w5.cell? ⟨gb252,1,none⟩=some (.int .i64 a0_1):=(blk_cell BK252.out 1).trans rfl;have hcz6_2:w5.cell? ⟨gb252,2,none⟩=some (.string a0_2):=(blk_cell BK252.out 2).trans rfl;have hfz6_0:=blk_frozen BK252.out 0;have hfz6_1:=blk_frozen BK252.out 1;have hfz6_2:=blk_frozen BK252.out 2)|((with_reducible refine gate_callee (f:=58) rfl ?_);refine goesL_ (some 9) rfl rfl Tryd.func58 (by kernel_rfl) rfl #[.int .i64 a0_1,.int .i64 0,.int .i64 99999] rfl qz2 ?_;(with_reducible refine (impl_in.calls a0_1 0 99999 true _ A3.out).mono ?_);rintro e w' ⟨rfl,⟨nd,rfl⟩⟩;refine ⟨_,rfl,?_⟩))
   go_ret
   exact ⟨qz3,qz64⟩
  ·replace c4:=Bool.eq_false_iff.mpr c4
   subst c4
   have H1:(some false)=some r:=qz23
   clear H
   have H:=H1
   clear H1
   obtain rfl:=Option.some.inj H
   go_enter Tryd.func71,Tryd.ntmps71
   go_wp2_with (first|((with_reducible refine gate_dst (N:=1) rfl ?_);refine box_event ?hg (N:=1) ?hd (cs:=#[.int .i64 a0_0,.int .i64 a0_1,.string a0_2]) (t:=47) ?hr ?_;(case hd=>rfl);(case hg=>rfl);(case hr=>first|(go_simp;done)|(go_simp;rfl));intro gb252 hg w7 hbox hb;have n0_:=Aside0.mk (below_step qz1 hb);have n1_:=Aside0.mk (hbox);have n2_:=Aside0.mk ((by rw [hg];exact (below_size qz1):w.heap.size≤gb252));have n3_:=Aside0.mk ((by rw [hg];exact (below_size qz1):w.heap.size≤gb252));clear HB;have HB:=n0_;have BK252:=n1_;have GW252:=n2_;have GE252:=n3_;clear n0_ n1_ n2_ n3_ hb hbox hg;have hcz8_0:w7.cell? ⟨gb252,0,none⟩=some (.int .i64 a0_0):=(blk_cell BK252.out 0).trans rfl;have hcz8_1:w7.cell? ⟨gb252,1,none⟩=some (.int .i64 a0_1):=(blk_cell BK252.out 1).trans rfl;have hcz8_2:w7.cell? ⟨gb252,2,none⟩=some (.string a0_2):=(blk_cell BK252.out 2).trans rfl;have hfz8_0:=blk_frozen BK252.out 0;have hfz8_1:=blk_frozen BK252.out 1;have hfz8_2:=blk_frozen BK252.out 2)|((with_reducible refine gate_callee (f:=58) rfl ?_);refine goesL_ (some 9) rfl rfl Tryd.func58 (by kernel_rfl) rfl #[.int .i64 a0_1,.int .i64 0,.int .i64 99999] rfl qz2 ?_;(with_reducible refine (impl_in.calls a0_1 0 99999 false _ A3.out).mono ?_);rintro e w' ⟨rfl,⟨nd,rfl⟩⟩;refine ⟨_,rfl,?_⟩))
   go_ret
   exact ⟨qz3,qz64⟩
 ·rw [if_neg c2] at H
  have c2b0:(a0_0 == 1)=false:=beq_eq_false_iff_ne.mpr c2
  have c2b1:(a0_0 != 1)=true:=bne_iff_ne.mpr c2
  by_cases c9:a0_0=2
  ·rw [if_pos c9] at H
   have c9b0:(a0_0 == 2)=true:=beq_iff_eq.mpr c9
   have c9b1:(a0_0 != 2)=false:=bne_eq_false_iff_eq.mpr c9
   clear c9
   replace H:=Option.bind_eq_some_iff.mp H
   obtain ⟨t254,A100,H⟩:=H
   try dsimp only at H
   have A10:=Aside0.mk A100
   clear A100
   by_cases c11:t254=true
   ·subst c11
    have H1:(some (a0_2.toList == ([]:List UInt8)))=some r:=qz51
    clear H
    have H:=H1
    clear H1
    obtain rfl:=Option.some.inj H
    go_enter Tryd.func71,Tryd.ntmps71
    go_wp2_with (first|((with_reducible refine gate_dst (N:=1) rfl ?_);refine box_event ?hg (N:=1) ?hd (cs:=#[.int .i64 a0_0,.int .i64 a0_1,.string a0_2]) (t:=47) ?hr ?_;(case hd=>rfl);(case hg=>rfl);(case hr=>first|(go_simp;done)|(go_simp;rfl));intro gb252 hg w12 hbox hb;have n0_:=Aside0.mk (below_step qz1 hb);have n1_:=Aside0.mk (hbox);have n2_:=Aside0.mk ((by rw [hg];exact (below_size qz1):w.heap.size≤gb252));have n3_:=Aside0.mk ((by rw [hg];exact (below_size qz1):w.heap.size≤gb252));clear HB;have HB:=n0_;have BK252:=n1_;have GW252:=n2_;have GE252:=n3_;clear n0_ n1_ n2_ n3_ hb hbox hg;have hcz13_0:w12.cell? ⟨gb252,0,none⟩=some (.int .i64 a0_0):=(blk_cell BK252.out 0).trans rfl;have hcz13_1:w12.cell? ⟨gb252,1,none⟩=some (.int .i64 a0_1):=(blk_cell BK252.out 1).trans rfl;have hcz13_2:w12.cell? ⟨gb252,2,none⟩=some (.string a0_2):=(blk_cell BK252.out 2).trans rfl;have hfz13_0:=blk_frozen BK252.out 0;have hfz13_1:=blk_frozen BK252.out 1;have hfz13_2:=blk_frozen BK252.out 2)|((with_reducible refine gate_callee (f:=58) rfl ?_);refine goesL_ (some 19) rfl rfl Tryd.func58 (by kernel_rfl) rfl #[.int .i64 a0_1,.int .i64 (-9999),.int .i64 9999] rfl qz2 ?_;(with_reducible refine (impl_in.calls a0_1 (-9999) 9999 true _ A10.out).mono ?_);rintro e w' ⟨rfl,⟨nd,rfl⟩⟩;refine ⟨_,rfl,?_⟩))
    go_ret
    exact ⟨qz3,qz64⟩
   ·replace c11:=Bool.eq_false_iff.mpr c11
    subst c11
    have H1:(some false)=some r:=qz23
    clear H
    have H:=H1
    clear H1
    obtain rfl:=Option.some.inj H
    go_enter Tryd.func71,Tryd.ntmps71
    go_wp2_with (first|((with_reducible refine gate_dst (N:=1) rfl ?_);refine box_event ?hg (N:=1) ?hd (cs:=#[.int .i64 a0_0,.int .i64 a0_1,.string a0_2]) (t:=47) ?hr ?_;(case hd=>rfl);(case hg=>rfl);(case hr=>first|(go_simp;done)|(go_simp;rfl));intro gb252 hg w14 hbox hb;have n0_:=Aside0.mk (below_step qz1 hb);have n1_:=Aside0.mk (hbox);have n2_:=Aside0.mk ((by rw [hg];exact (below_size qz1):w.heap.size≤gb252));have n3_:=Aside0.mk ((by rw [hg];exact (below_size qz1):w.heap.size≤gb252));clear HB;have HB:=n0_;have BK252:=n1_;have GW252:=n2_;have GE252:=n3_;clear n0_ n1_ n2_ n3_ hb hbox hg;have hcz15_0:w14.cell? ⟨gb252,0,none⟩=some (.int .i64 a0_0):=(blk_cell BK252.out 0).trans rfl;have hcz15_1:w14.cell? ⟨gb252,1,none⟩=some (.int .i64 a0_1):=(blk_cell BK252.out 1).trans rfl;have hcz15_2:w14.cell? ⟨gb252,2,none⟩=some (.string a0_2):=(blk_cell BK252.out 2).trans rfl;have hfz15_0:=blk_frozen BK252.out 0;have hfz15_1:=blk_frozen BK252.out 1;have hfz15_2:=blk_frozen BK252.out 2)|((with_reducible refine gate_callee (f:=58) rfl ?_);refine goesL_ (some 19) rfl rfl Tryd.func58 (by kernel_rfl) rfl #[.int .i64 a0_1,.int .i64 (-9999),.int .i64 9999] rfl qz2 ?_;(with_reducible refine (impl_in.calls a0_1 (-9999) 9999 false _ A10.out).mono ?_);rintro e w' ⟨rfl,⟨nd,rfl⟩⟩;refine ⟨_,rfl,?_⟩))
    go_ret
    exact ⟨qz3,qz64⟩
  ·rw [if_neg c9] at H
   have c9b0:(a0_0 == 2)=false:=beq_eq_false_iff_ne.mpr c9
   have c9b1:(a0_0 != 2)=true:=bne_iff_ne.mpr c9
   by_cases c16:a0_0=3
   ·rw [if_pos c16] at H
    have c16b0:(a0_0 == 3)=true:=beq_iff_eq.mpr c16
    have c16b1:(a0_0 != 3)=false:=bne_eq_false_iff_eq.mpr c16
    clear c16
    replace H:=Option.bind_eq_some_iff.mp H
    obtain ⟨t255,A170,H⟩:=H
    try dsimp only at H
    have A17:=Aside0.mk A170
    clear A170
    by_cases c18:t255=true
    ·subst c18
     have H1:((impl_nameOk.f a0_2).bind fun t256=>(some t256))=some r:=qz51
     clear H
     have H:=H1
     clear H1
     replace H:=Option.bind_eq_some_iff.mp H
     obtain ⟨t256,A190,H⟩:=H
     try dsimp only at H
     have A19:=Aside0.mk A190
     clear A190
     obtain rfl:=Option.some.inj H
     go_enter Tryd.func71,Tryd.ntmps71
     go_wp2_with (first|((with_reducible refine gate_dst (N:=1) rfl ?_);refine box_event ?hg (N:=1) ?hd (cs:=#[.int .i64 a0_0,.int .i64 a0_1,.string a0_2]) (t:=47) ?hr ?_;(case hd=>rfl);(case hg=>rfl);(case hr=>first|(go_simp;done)|(go_simp;rfl));intro gb252 hg w20 hbox hb;have n0_:=Aside0.mk (below_step qz1 hb);have n1_:=Aside0.mk (hbox);have n2_:=Aside0.mk ((by rw [hg];exact (below_size qz1):w.heap.size≤gb252));have n3_:=Aside0.mk ((by rw [hg];exact (below_size qz1):w.heap.size≤gb252));clear HB;have HB:=n0_;have BK252:=n1_;have GW252:=n2_;have GE252:=n3_;clear n0_ n1_ n2_ n3_ hb hbox hg;have hcz21_0:w20.cell? ⟨gb252,0,none⟩=some (.int .i64 a0_0):=(blk_cell BK252.out 0).trans rfl;have hcz21_1:w20.cell? ⟨gb252,1,none⟩=some (.int .i64 a0_1):=(blk_cell BK252.out 1).trans rfl;have hcz21_2:w20.cell? ⟨gb252,2,none⟩=some (.string a0_2):=(blk_cell BK252.out 2).trans rfl;have hfz21_0:=blk_frozen BK252.out 0;have hfz21_1:=blk_frozen BK252.out 1;have hfz21_2:=blk_frozen BK252.out 2)|((with_reducible refine gate_callee (f:=58) rfl ?_);refine goesL_ (some 29) rfl rfl Tryd.func58 (by kernel_rfl) rfl #[.int .i64 a0_1,.int .i64 0,.int .i64 3] rfl qz2 ?_;(with_reducible refine (impl_in.calls a0_1 0 3 true _ A17.out).mono ?_);rintro e w' ⟨rfl,⟨nd,rfl⟩⟩;refine ⟨_,rfl,?_⟩)|(go_at_call 57;(with_reducible refine (impl_nameOk.calls a0_2 t256 _ A19.out).mono ?_);rintro e w22 ⟨rfl,hb⟩;have n0_:=Aside0.mk (blk_below (g:=gb252) (o:=.cells #[.int .i64 a0_0,.int .i64 a0_1,.string a0_2] 47 (0,0)) (by (with_reducible repeat (first|refine blk_drewN ?_ _|refine blk_drew ?_|refine blk_alloc ?_ _));exact BK252.out) hb);have n1_:=Aside0.mk (below_step qz64 hb);clear BK252 HB;have BK252:=n0_;have HB:=n1_;clear n0_ n1_;(try clear hb);(try clear hb2);(try clear hk);(try clear hi)))
     go_ret
     exact ⟨qz3,qz64⟩
    ·replace c18:=Bool.eq_false_iff.mpr c18
     subst c18
     have H1:(some false)=some r:=qz23
     clear H
     have H:=H1
     clear H1
     obtain rfl:=Option.some.inj H
     go_enter Tryd.func71,Tryd.ntmps71
     go_wp2_with (first|((with_reducible refine gate_dst (N:=1) rfl ?_);refine box_event ?hg (N:=1) ?hd (cs:=#[.int .i64 a0_0,.int .i64 a0_1,.string a0_2]) (t:=47) ?hr ?_;(case hd=>rfl);(case hg=>rfl);(case hr=>first|(go_simp;done)|(go_simp;rfl));intro gb252 hg w23 hbox hb;have n0_:=Aside0.mk (below_step qz1 hb);have n1_:=Aside0.mk (hbox);have n2_:=Aside0.mk ((by rw [hg];exact (below_size qz1):w.heap.size≤gb252));have n3_:=Aside0.mk ((by rw [hg];exact (below_size qz1):w.heap.size≤gb252));clear HB;have HB:=n0_;have BK252:=n1_;have GW252:=n2_;have GE252:=n3_;clear n0_ n1_ n2_ n3_ hb hbox hg;have hcz24_0:w23.cell? ⟨gb252,0,none⟩=some (.int .i64 a0_0):=(blk_cell BK252.out 0).trans rfl;have hcz24_1:w23.cell? ⟨gb252,1,none⟩=some (.int .i64 a0_1):=(blk_cell BK252.out 1).trans rfl;have hcz24_2:w23.cell? ⟨gb252,2,none⟩=some (.string a0_2):=(blk_cell BK252.out 2).trans rfl;have hfz24_0:=blk_frozen BK252.out 0;have hfz24_1:=blk_frozen BK252.out 1;have hfz24_2:=blk_frozen BK252.out 2)|((with_reducible refine gate_callee (f:=58) rfl ?_);refine goesL_ (some 29) rfl rfl Tryd.func58 (by kernel_rfl) rfl #[.int .i64 a0_1,.int .i64 0,.int .i64 3] rfl qz2 ?_;(with_reducible refine (impl_in.calls a0_1 0 3 false _ A17.out).mono ?_);rintro e w' ⟨rfl,⟨nd,rfl⟩⟩;refine ⟨_,rfl,?_⟩))
     go_ret
     exact ⟨qz3,qz64⟩
   ·rw [if_neg c16] at H
    have c16b0:(a0_0 == 3)=false:=beq_eq_false_iff_ne.mpr c16
    have c16b1:(a0_0 != 3)=true:=bne_iff_ne.mpr c16
    obtain rfl:=Option.some.inj H
    go_enter Tryd.func71,Tryd.ntmps71
    go_wp2_with (first|((with_reducible refine gate_dst (N:=1) rfl ?_);refine box_event ?hg (N:=1) ?hd (cs:=#[.int .i64 a0_0,.int .i64 a0_1,.string a0_2]) (t:=47) ?hr ?_;(case hd=>rfl);(case hg=>rfl);(case hr=>first|(go_simp;done)|(go_simp;rfl));intro gb252 hg w25 hbox hb;have n0_:=Aside0.mk (below_step qz1 hb);have n1_:=Aside0.mk (hbox);have n2_:=Aside0.mk ((by rw [hg];exact (below_size qz1):w.heap.size≤gb252));have n3_:=Aside0.mk ((by rw [hg];exact (below_size qz1):w.heap.size≤gb252));clear HB;have HB:=n0_;have BK252:=n1_;have GW252:=n2_;have GE252:=n3_;clear n0_ n1_ n2_ n3_ hb hbox hg;have hcz26_0:w25.cell? ⟨gb252,0,none⟩=some (.int .i64 a0_0):=(blk_cell BK252.out 0).trans rfl;have hcz26_1:w25.cell? ⟨gb252,1,none⟩=some (.int .i64 a0_1):=(blk_cell BK252.out 1).trans rfl;have hcz26_2:w25.cell? ⟨gb252,2,none⟩=some (.string a0_2):=(blk_cell BK252.out 2).trans rfl;have hfz26_0:=blk_frozen BK252.out 0;have hfz26_1:=blk_frozen BK252.out 1;have hfz26_2:=blk_frozen BK252.out 2))
    go_ret
    exact ⟨qz3,qz64⟩

/-! ### impl_TrmCell_arity: function 87 -/
def impl_TrmCell_arity.f (a0_0:Int) (a0_1:Int) (a0_2:ByteArray):Option (Int):=if a0_0=3 then (some a0_1) else (some 0)
set_option maxHeartbeats 8000000 in
set_option maxRecDepth 100000 in
theorem impl_TrmCell_arity.calls (a0_0:Int) (a0_1:Int) (a0_2:ByteArray) (r:Int) (w:World) (h:impl_TrmCell_arity.f a0_0 a0_1 a0_2=some r) :
  Calls Tryd.prog 87 #[.agg #[.int .i64 a0_0,.int .i64 a0_1,.string a0_2]] w fun e w'=>e = .returned (.int .i64 r)∧Below w.heap.size w w':=by
 have hu47:=Tryd.underlying47
 have HB:=Aside0.mk (Below.refl w.heap.size w)
 have H:(if a0_0=3 then (some a0_1) else (some 0))=some r:=h
 clear h
 by_cases c2:a0_0=3
 ·rw [if_pos c2] at H
  have c2b0:(a0_0 == 3)=true:=beq_iff_eq.mpr c2
  have c2b1:(a0_0 != 3)=false:=bne_eq_false_iff_eq.mpr c2
  clear c2
  obtain rfl:=Option.some.inj H
  go_enter Tryd.func87,Tryd.ntmps87
  go_wp2_with (first|((with_reducible refine gate_dst (N:=1) rfl ?_);refine box_event ?hg (N:=1) ?hd (cs:=#[.int .i64 a0_0,.int .i64 a0_1,.string a0_2]) (t:=47) ?hr ?_;(case hd=>rfl);(case hg=>rfl);(case hr=>first|(go_simp;done)|(go_simp;rfl));intro gb257 hg w3 hbox hb;have n0_:=Aside0.mk (below_step qz1 hb);have n1_:=Aside0.mk (hbox);have n2_:=Aside0.mk ((by rw [hg];exact (below_size qz1):w.heap.size≤gb257));have n3_:=Aside0.mk ((by rw [hg];exact (below_size qz1):w.heap.size≤gb257));clear HB;have HB:=n0_;have BK257:=n1_;have GW257:=n2_;have GE257:=n3_;clear n0_ n1_ n2_ n3_ hb hbox hg;have hcz4_0:w3.cell? ⟨gb257,0,none⟩=some (.int .i64 a0_0):=(blk_cell BK257.out 0).trans rfl;have hcz4_1:w3.cell? ⟨gb257,1,none⟩=some (.int .i64 a0_1):=(blk_cell BK257.out 1).trans rfl;have hcz4_2:w3.cell? ⟨gb257,2,none⟩=some (.string a0_2):=(blk_cell BK257.out 2).trans rfl;have hfz4_0:=blk_frozen BK257.out 0;have hfz4_1:=blk_frozen BK257.out 1;have hfz4_2:=blk_frozen BK257.out 2))
  go_ret
  exact ⟨qz3,qz174⟩
 ·rw [if_neg c2] at H
  have c2b0:(a0_0 == 3)=false:=beq_eq_false_iff_ne.mpr c2
  have c2b1:(a0_0 != 3)=true:=bne_iff_ne.mpr c2
  obtain rfl:=Option.some.inj H
  go_enter Tryd.func87,Tryd.ntmps87
  go_wp2_with (first|((with_reducible refine gate_dst (N:=1) rfl ?_);refine box_event ?hg (N:=1) ?hd (cs:=#[.int .i64 a0_0,.int .i64 a0_1,.string a0_2]) (t:=47) ?hr ?_;(case hd=>rfl);(case hg=>rfl);(case hr=>first|(go_simp;done)|(go_simp;rfl));intro gb257 hg w5 hbox hb;have n0_:=Aside0.mk (below_step qz1 hb);have n1_:=Aside0.mk (hbox);have n2_:=Aside0.mk ((by rw [hg];exact (below_size qz1):w.heap.size≤gb257));have n3_:=Aside0.mk ((by rw [hg];exact (below_size qz1):w.heap.size≤gb257));clear HB;have HB:=n0_;have BK257:=n1_;have GW257:=n2_;have GE257:=n3_;clear n0_ n1_ n2_ n3_ hb hbox hg;have hcz6_0:w5.cell? ⟨gb257,0,none⟩=some (.int .i64 a0_0):=(blk_cell BK257.out 0).trans rfl;have hcz6_1:w5.cell? ⟨gb257,1,none⟩=some (.int .i64 a0_1):=(blk_cell BK257.out 1).trans rfl;have hcz6_2:w5.cell? ⟨gb257,2,none⟩=some (.string a0_2):=(blk_cell BK257.out 2).trans rfl;have hfz6_0:=blk_frozen BK257.out 0;have hfz6_1:=blk_frozen BK257.out 1;have hfz6_2:=blk_frozen BK257.out 2))
  go_ret
  exact ⟨qz3,qz174⟩

end Go.Proofs.YtepkgjcobocbpaaDoor.P
