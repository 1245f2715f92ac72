/- Contracts of functions of the program: each as a Lean function, and that its call does what that says; printed by cprint.py (this session) over print.py of the kit. Conditions: the hypotheses of each theorem. -/
import Derived.Test.YtlhniagacegbeaaGreatDoorVZ
import Derived.Test.YtlhniagacegbeaaGreatDoorP0
import Derived.Test.YtlhniagacegbeaaGreatDoorP10
import Derived.Test.YtlhniagacegbeaaGreatDoorP11
import Derived.Test.YtlhniagacegbeaaGreatDoorP12
import Derived.Test.YtlhniagacegbeaaGreatDoorP13
namespace Go.Proofs.YtlhniagacegbeaaGreatDoor.P
open Go.RowKit Go.Proofs.YtlhniagacegbeaaGreatDoorW.PrintWords Go.Proofs.YtlhniagacegbeaaGreatDoorW.PrintLast Go.Proofs.YtlhniagacegbeaaGreatDoorW.PrintMore
attribute [local go_sem] max2_int min2_int max_two min_two max_three min_three max_four min_four   -- for this text's walks alone
set_option linter.unusedVariables false
set_option linter.unusedSimpArgs false

/-! ### impl_GoalRead: function 7 -/
mutual
def impl_GoalRead.j2:Nat→ByteArray→List ByteArray→Int→List (S63)→Option (Int × (List (S63)) × (List (S63)) × (List (S63)) × Bool)
 | 0,_,_,_,_=>none
 | k+1,x0,x4,x258000,x258003=>if 0<(x4.length:Int) then ((impl_TrmRead.f k (rdOf ByteArray.empty x4 0)).bind fun bt266=>(if (x4.length:Int) > 2 then (if 2<(x4.length:Int) then ((impl_TrmRead.f k (rdOf ByteArray.empty x4 2)).bind fun bt271=>(impl_GoalRead.j3 k x0 x258000 bt266.1 bt271.1 x258003)) else (none)) else (impl_GoalRead.j3 k x0 x258000 bt266.1 ([]:List (S63)) x258003))) else (none)
def impl_GoalRead.j3:Nat→ByteArray→Int→List (S63)→List (S63)→List (S63)→Option (Int × (List (S63)) × (List (S63)) × (List (S63)) × Bool)
 | 0,_,_,_,_,_=>none
 | k+1,x0,x258000,x258001,x258002,x258003=>(impl_GoalOk.f x258000 x258001 x258002 x258003).bind fun t275=>(if t275=true then ((impl_GoalText.f k x258000 x258001 x258002 x258003).bind fun t276=>(if t276.toList=x0.toList then (some (x258000,x258001,x258002,x258003,true)) else (some (0,([]:List (S63)),([]:List (S63)),([]:List (S63)),false)))) else (some (0,([]:List (S63)),([]:List (S63)),([]:List (S63)),false)))
def impl_GoalRead.j0:Nat→ByteArray→List ByteArray→Bool→Int→Option (Int × (List (S63)) × (List (S63)) × (List (S63)) × Bool)
 | 0,_,_,_,_=>none
 | k+1,x0,x4,x13,x258000=>if x13=true then (impl_GoalRead.j2 k x0 x4 2 ([]:List (S63))) else (if (x4.length:Int)=3 then (if 1<(x4.length:Int) then (impl_GoalRead.j1 k x0 x4 ((rdOf ByteArray.empty x4 1).toList == ([60]:List UInt8)) x258000) else (none)) else (impl_GoalRead.j1 k x0 x4 false x258000))
def impl_GoalRead.j1:Nat→ByteArray→List ByteArray→Bool→Int→Option (Int × (List (S63)) × (List (S63)) × (List (S63)) × Bool)
 | 0,_,_,_,_=>none
 | k+1,x0,x4,x24,x258000=>if x24=true then (impl_GoalRead.j2 k x0 x4 4 ([]:List (S63))) else (if (x4.length:Int)=5 then (if 4<(x4.length:Int) then ((impl_TrmRead.f k (rdOf ByteArray.empty x4 4)).bind fun bt261=>(impl_GoalRead.j2 k x0 x4 5 bt261.1)) else (none)) else (impl_GoalRead.j2 k x0 x4 x258000 ([]:List (S63))))
end
def impl_GoalRead.f (k:Nat) (a0:ByteArray):Option (Int × (List (S63)) × (List (S63)) × (List (S63)) × Bool):=(strings_Split.f a0 (⟨#[32]⟩:ByteArray)).bind fun t254=>(if a0.toList=([33]:List UInt8) then (some (3,([]:List (S63)),([]:List (S63)),([]:List (S63)),true)) else (if (t254.length:Int)=3 then (if 1<(t254.length:Int) then (impl_GoalRead.j0 k a0 t254 ((rdOf ByteArray.empty t254 1).toList == ([61]:List UInt8)) 1) else (none)) else (impl_GoalRead.j0 k a0 t254 false 1)))
set_option maxHeartbeats 8000000 in
set_option maxRecDepth 100000 in
theorem impl_GoalRead.calls (k:Nat) (a0:ByteArray) (r1:Int) (r2:List (S63)) (r3:List (S63)) (r4:List (S63)) (r5:Bool) (w:World) (hM_:MaxT w) (hE_:ErrT w) (hT_:TabT w) (h:impl_GoalRead.f k a0=some (r1,r2,r3,r4,r5)) :
  Calls Tryz.prog 7 #[.string a0] w fun e w'=>∃ v1_ v2_ v3_:Value,e = .returned (.tuple #[.agg #[.int .i64 r1,v1_,v2_,v3_],.bool r5])∧Kd.R k63 63 w' w.heap.size (fun k_=>some k_≠(v2_:Value).ownBlock∧some k_≠(v3_:Value).ownBlock) v1_ r2∧Kd.R k63 63 w' w.heap.size (fun k_=>some k_≠(v1_:Value).ownBlock∧some k_≠(v3_:Value).ownBlock) v2_ r3∧Kd.R k63 63 w' w.heap.size (fun k_=>some k_≠(v1_:Value).ownBlock∧some k_≠(v2_:Value).ownBlock) v3_ r4∧Below w.heap.size w w':=by
 have HQM_:=Aside0.mk hM_
 clear hM_
 have HQE_:=Aside0.mk hE_
 clear hE_
 have HQT_:=Aside0.mk hT_
 clear hT_
 have hu24:=Tryz.underlying24
 have HB:=Aside0.mk (Below.refl w.heap.size w)
 have H:((strings_Split.f a0 (⟨#[32]⟩:ByteArray)).bind fun t254=>(if a0.toList=([33]:List UInt8) then (some (3,([]:List (S63)),([]:List (S63)),([]:List (S63)),true)) else (if (t254.length:Int)=3 then (if 1<(t254.length:Int) then (impl_GoalRead.j0 k a0 t254 ((rdOf ByteArray.empty t254 1).toList == ([61]:List UInt8)) 1) else (none)) else (impl_GoalRead.j0 k a0 t254 false 1))))=some (r1,r2,r3,r4,r5):=h
 clear h
 replace H:=Option.bind_eq_some_iff.mp H
 obtain ⟨t254,A20,H⟩:=H
 try dsimp only at H
 have A2:=Aside0.mk A20
 clear A20
 have HC3:=Aside0.mk H
 clear H
 go_enter Tryz.func7,Tryz.ntmps7
 go_upto_block 0 with (first|((with_reducible refine gate_dst (N:=2) rfl ?_);refine box_event ?hg (N:=2) ?hd (cs:=#[.int .i64 0,.slice none 0 0,.slice none 0 0,.slice none 0 0]) (t:=24) ?hr ?_;(case hd=>rfl);(case hg=>rfl);(case hr=>first|(go_simp;done)|(go_simp;rfl));intro gb253 hg w4 hbox hb;have n0_:=Aside0.mk (below_step qz1 hb);have n1_:=Aside0.mk (hbox);have n2_:=Aside0.mk ((by rw [hg];exact (below_size qz1):w.heap.size≤gb253));have n3_:=Aside0.mk ((by rw [hg];exact (below_size qz1):w.heap.size≤gb253));clear HB;have HB:=n0_;have BK253:=n1_;have GW253:=n2_;have GE253:=n3_;clear n0_ n1_ n2_ n3_ hb hbox hg)|((with_reducible refine gate_callee (f:=26) rfl ?_);refine goesL_ (some 7) rfl rfl Tryz.func26 (by kernel_rfl) rfl #[.string a0,.string (⟨#[32]⟩:ByteArray)] rfl qz2 ?_;(with_reducible refine (strings_Split.calls (hM_:=HQM_.out.below qz7) a0 (⟨#[32]⟩:ByteArray) t254 _ A2.out).mono ?_);rintro e w5 ⟨v255,rfl,ho0,hb⟩;refine ⟨_,rfl,?_⟩;have n0_:=Aside0.mk (Kd.R_lower ho0 (below_size qz89));have n1_:=Aside0.mk (blk_below (g:=gb253) (o:=.cells #[.int .i64 0,.slice none 0 0,.slice none 0 0,.slice none 0 0] 24 (0,0)) qz52 hb);have n2_:=Aside0.mk (below_step qz89 hb);clear BK253 HB;have HO256:=n0_;have BK253:=n1_;have HB:=n2_;clear n0_ n1_ n2_;(try clear hb);(try clear hb2);(try clear hk);(try clear hi);(try clear ho0))|((with_reducible refine gate_dst (N:=5) rfl ?_);refine box_event ?hg (N:=5) ?hd (cs:=#[.int .i64 0,.slice none 0 0,.slice none 0 0,.slice none 0 0]) (t:=24) ?hr ?_;(case hd=>rfl);(case hg=>rfl);(case hr=>first|(go_simp;done)|(go_simp;rfl));intro gb257 hg w6 hbox hb;have n0_:=Aside0.mk (Kd.R_below (by (with_reducible repeat (first|apply Kd.R_alloc|apply Kd.R_drewN|apply Kd.R_drew));exact HO256.out) hb);have n1_:=Aside0.mk (blk_below (g:=gb253) (o:=.cells #[.int .i64 0,.slice none 0 0,.slice none 0 0,.slice none 0 0] 24 (0,0)) qz52 hb);have n2_:=Aside0.mk (below_step qz89 hb);have n3_:=Aside0.mk (hbox);have n4_:=Aside0.mk ((by rw [hg];exact (below_size qz89):w.heap.size≤gb257));have n5_:=Aside0.mk ((by rw [hg];exact (below_size qz89):w.heap.size≤gb257));have n6_:=Aside0.mk ((by rw [hg];exact Nat.ne_of_lt (blk_lt (g:=gb253) (o:=.cells #[.int .i64 0,.slice none 0 0,.slice none 0 0,.slice none 0 0] 24 (0,0)) qz52):gb253≠gb257));have n7_:=Aside0.mk ((by rw [hg];exact Nat.ne_of_gt (blk_lt (g:=gb253) (o:=.cells #[.int .i64 0,.slice none 0 0,.slice none 0 0,.slice none 0 0] 24 (0,0)) qz52):gb257≠gb253));clear HO256 BK253 HB;have HO256:=n0_;have BK253:=n1_;have HB:=n2_;have BK257:=n3_;have GW257:=n4_;have GE257:=n5_;have NB253_257:=n6_;have NB257_253:=n7_;clear n0_ n1_ n2_ n3_ n4_ n5_ n6_ n7_ hb hbox hg;have hnb7:=NB257_253.out;have hnc7:=NB253_257.out;have hcz8_0:w6.cell? ⟨gb257,0,none⟩=some (.int .i64 0):=(blk_cell BK257.out 0).trans rfl;have hcz8_1:w6.cell? ⟨gb257,1,none⟩=some (.slice none 0 0):=(blk_cell BK257.out 1).trans rfl;have hcz8_2:w6.cell? ⟨gb257,2,none⟩=some (.slice none 0 0):=(blk_cell BK257.out 2).trans rfl;have hcz8_3:w6.cell? ⟨gb257,3,none⟩=some (.slice none 0 0):=(blk_cell BK257.out 3).trans rfl;have hfz8_0:=blk_frozen BK257.out 0;have hfz8_1:=blk_frozen BK257.out 1;have hfz8_2:=blk_frozen BK257.out 2;have hfz8_3:=blk_frozen BK257.out 3))
 (try simp only [Act.put,List.setIfInBounds_toArray,List.set_cons_zero,List.set_cons_succ])
 go_cut [] (fun wc=>∃ (kq:Nat) (x254000_2:Int) (x258000_2:Int) (x258003_2:List (S63)) (u258003:Value),Aside0 (impl_GoalRead.j2 kq a0 t254 x258000_2 x258003_2=some (r1,r2,r3,r4,r5))∧Aside0 (kq≤k)∧Aside0 (Kd.R Kd.string 9 wc w.heap.size (fun _=>True) v255 t254)∧Aside0 (Kd.R k63 63 wc w.heap.size (fun _=>True) u258003 x258003_2)∧Aside0 (wc.heap[gb253]?=some (.cells #[.int .i64 x254000_2,(.slice none 0 0),(.slice none 0 0),(.slice none 0 0)] 24 (0,0)))∧Aside0 (wc.heap[gb257]?=some (.cells #[.int .i64 x258000_2,(.slice none 0 0),(.slice none 0 0),u258003] 24 (0,0)))∧Aside0 (Below w.heap.size w wc))
 case first=>
  have H:=HC3.out
  clear HC3
  by_cases c9:a0.toList=([33]:List UInt8)
  ·rw [if_pos c9] at H
   have c9b0:(a0.toList == ([33]:List UInt8))=true:=beq_iff_eq.mpr c9
   have c9b1:(a0.toList != ([33]:List UInt8))=false:=bne_eq_false_iff_eq.mpr c9
   clear c9
   (first|rw [c9b0]|rw [c9b1]|(simp only [i64_w,i32_w];rw [c9b0])|skip)
   simp only [Option.some.injEq,Prod.mk.injEq] at H
   obtain ⟨rfl,rfl,rfl,rfl,rfl⟩:=H
   have hnb10:=NB253_257.out
   have hnc10:=NB257_253.out
   have hcz11_0:w6.cell? ⟨gb253,0,none⟩=some (.int .i64 0):=(blk_cell BK253.out 0).trans rfl
   have hcz11_1:w6.cell? ⟨gb253,1,none⟩=some (.slice none 0 0):=(blk_cell BK253.out 1).trans rfl
   have hcz11_2:w6.cell? ⟨gb253,2,none⟩=some (.slice none 0 0):=(blk_cell BK253.out 2).trans rfl
   have hcz11_3:w6.cell? ⟨gb253,3,none⟩=some (.slice none 0 0):=(blk_cell BK253.out 3).trans rfl
   have hfz11_0:=blk_frozen BK253.out 0
   have hfz11_1:=blk_frozen BK253.out 1
   have hfz11_2:=blk_frozen BK253.out 2
   have hfz11_3:=blk_frozen BK253.out 3
   go_wp2
   refine bodyPost_ret (results_ct rfl _ _ gb253 24 #[.int .i64 3,.slice none 0 0,.slice none 0 0,.slice none 0 0] (0,0) _ rfl (by (with_reducible repeat (first|refine blk_drewN ?_ _|refine blk_drew ?_|refine blk_alloc ?_ _));refine blk_put (cs:=#[.int .i64 3,.slice none 0 0,.slice none 0 0,.slice none 0 0]) ?_ 3 _ rfl;(with_reducible repeat (first|refine blk_drewN ?_ _|refine blk_drew ?_|refine blk_alloc ?_ _));refine blk_put (cs:=#[.int .i64 3,.slice none 0 0,.slice none 0 0,.slice none 0 0]) ?_ 2 _ rfl;(with_reducible repeat (first|refine blk_drewN ?_ _|refine blk_drew ?_|refine blk_alloc ?_ _));refine blk_put (cs:=#[.int .i64 3,.slice none 0 0,.slice none 0 0,.slice none 0 0]) ?_ 1 _ rfl;(with_reducible repeat (first|refine blk_drewN ?_ _|refine blk_drew ?_|refine blk_alloc ?_ _));refine blk_put (cs:=#[.int .i64 0,.slice none 0 0,.slice none 0 0,.slice none 0 0]) ?_ 0 _ rfl;(with_reducible repeat (first|refine blk_drewN ?_ _|refine blk_drew ?_|refine blk_alloc ?_ _));refine blk_far ?_ NB253_257.out _;(with_reducible repeat (first|refine blk_drewN ?_ _|refine blk_drew ?_|refine blk_alloc ?_ _));refine blk_far ?_ NB253_257.out _;(with_reducible repeat (first|refine blk_drewN ?_ _|refine blk_drew ?_|refine blk_alloc ?_ _));refine blk_far ?_ NB253_257.out _;(with_reducible repeat (first|refine blk_drewN ?_ _|refine blk_drew ?_|refine blk_alloc ?_ _));refine blk_far ?_ NB253_257.out _;(with_reducible repeat (first|refine blk_drewN ?_ _|refine blk_drew ?_|refine blk_alloc ?_ _));exact BK253.out) Tryz.underlying24 rfl (by kernel_rfl)) rfl ?_
   exact ⟨_,_,_,qz4,qz35,qz35,qz35,qz7⟩
  ·rw [if_neg c9] at H
   have c9b0:(a0.toList == ([33]:List UInt8))=false:=beq_eq_false_iff_ne.mpr c9
   have c9b1:(a0.toList != ([33]:List UInt8))=true:=bne_iff_ne.mpr c9
   (first|rw [c9b0]|rw [c9b1]|(simp only [i64_w,i32_w];rw [c9b0])|skip)
   have HC12:=Aside0.mk H
   clear H
   go_upto_region 5 with (fail)
   go_cut [13] (fun v13 wc=>∃ (kq:Nat) (x13_11:Bool),v13 = .bool x13_11∧Aside0 (impl_GoalRead.j0 kq a0 t254 x13_11 1=some (r1,r2,r3,r4,r5))∧Aside0 (kq≤k)∧Aside0 (Kd.R Kd.string 9 wc w.heap.size (fun _=>True) v255 t254)∧Aside0 (wc.heap[gb253]?=some (.cells #[.int .i64 0,(.slice none 0 0),(.slice none 0 0),(.slice none 0 0)] 24 (0,0)))∧Aside0 (wc.heap[gb257]?=some (.cells #[.int .i64 1,(.slice none 0 0),(.slice none 0 0),(.slice none 0 0)] 24 (0,0)))∧Aside0 (Below w.heap.size w wc))
   case first=>
    have H:=HC12.out
    clear HC12
    by_cases c13:(t254.length:Int)=3
    ·rw [if_pos c13] at H
     have c13b0:((t254.length:Int) == 3)=true:=beq_iff_eq.mpr c13
     have c13b1:((t254.length:Int) != 3)=false:=bne_eq_false_iff_eq.mpr c13
     clear c13
     (first|rw [c13b0]|rw [c13b1]|(simp only [i64_w,i32_w];rw [c13b0])|skip)
     by_cases c14:1<(t254.length:Int)
     ·rw [if_pos c14] at H
      have c14b0:decide (1<(t254.length:Int))=true:=decide_eq_true c14
      have c14b1:decide (1<t254.length)=true:=decide_eq_true (by omega)
      clear c14
      have H':=Aside0.mk H
      clear H
      obtain ⟨Ao15,co15,eo15⟩:=Kd.R_slice HO256.out
      subst eo15
      have p258:0≤(1:Int):=(by omega)
      have q258:1<(t254.length:Int):=of_decide_eq_true qz5
      obtain ⟨ad258,e258,hx258_0⟩:=Kd.at_string (Kd.R_reads' HO256.out).2.2 1 p258 q258
      cases e258
      (try simp only [show (1:Int).toNat=1 from rfl,Nat.reduceMul,Nat.reduceEqDiff,Go.Addr.add,↓reduceIte] at hx258_0)
      have qi258:(1<t254.length)=True:=eq_true (by omega)
      (try rw [show ((1:Int)).toNat=1 from rfl] at hx258_0)
      have hn258_0:ad258.block≠gb257:=Kd.own_blk qz135
      have hn258_1:ad258.block≠gb257:=Kd.own_blk qz135
      have hn258_2:ad258.block≠gb257:=Kd.own_blk qz135
      have hn258_3:ad258.block≠gb257:=Kd.own_blk qz135
      replace hx258_0:=(cell_far (p:=⟨gb257,0,none⟩) (by first|(rw [add_block];exact hn258_0)|(show (Addr.add _ _).block≠_;rw [add_block];exact hn258_0)|exact hn258_0) (.int .i64 1)).trans hx258_0
      replace hx258_0:=(cell_far (p:=⟨gb257,1,none⟩) (by first|(rw [add_block];exact hn258_1)|(show (Addr.add _ _).block≠_;rw [add_block];exact hn258_1)|exact hn258_1) (.slice none 0 0)).trans hx258_0
      replace hx258_0:=(cell_far (p:=⟨gb257,2,none⟩) (by first|(rw [add_block];exact hn258_2)|(show (Addr.add _ _).block≠_;rw [add_block];exact hn258_2)|exact hn258_2) (.slice none 0 0)).trans hx258_0
      replace hx258_0:=(cell_far (p:=⟨gb257,3,none⟩) (by first|(rw [add_block];exact hn258_3)|(show (Addr.add _ _).block≠_;rw [add_block];exact hn258_3)|exact hn258_3) (.slice none 0 0)).trans hx258_0
      clear hn258_0 hn258_1 hn258_2 hn258_3
      replace p258:=eq_true p258
      replace q258:=eq_true q258
      go_wp2
      go_meet
      case rel=>exact ⟨_,(((rdOf ByteArray.empty t254 1).toList == ([61]:List UInt8))),qz9,H',⟨qz107⟩,⟨qz112⟩,⟨qz88⟩,⟨qz73⟩,⟨qz7⟩⟩
     ·rw [if_neg c14] at H
      exact absurd H (by simp)
    ·rw [if_neg c13] at H
     have c13b0:((t254.length:Int) == 3)=false:=beq_eq_false_iff_ne.mpr c13
     have c13b1:((t254.length:Int) != 3)=true:=bne_iff_ne.mpr c13
     (first|rw [c13b0]|rw [c13b1]|(simp only [i64_w,i32_w];rw [c13b0])|skip)
     have H':=Aside0.mk H
     clear H
     obtain ⟨Ao16,co16,eo16⟩:=Kd.R_slice HO256.out
     subst eo16
     go_wp2
     go_meet
     case rel=>exact ⟨_,(false),qz9,H',⟨qz107⟩,⟨qz112⟩,⟨qz88⟩,⟨qz73⟩,⟨qz7⟩⟩
   case rest=>
    clear HC12
    try clear c1
    try clear c2
    try clear p2
    try clear q2
    try clear hx2
    try clear qi2
    try clear c7
    try clear c9
    try clear c9b0
    try clear c9b1
    try clear c10
    try clear c13
    try clear c13b0
    try clear c13b1
    try clear c14
    try clear c14b0
    try clear c14b1
    try clear hcz11_0
    try clear hcz11_1
    try clear hcz11_2
    try clear hcz11_3
    try clear hcz8_0
    try clear hcz8_1
    try clear hcz8_2
    try clear hcz8_3
    try clear hfz11_0
    try clear hfz11_1
    try clear hfz11_2
    try clear hfz11_3
    try clear hfz8_0
    try clear hfz8_1
    try clear hfz8_2
    try clear hfz8_3
    try clear hx258_0
    try clear p258
    try clear q258
    obtain ⟨kq,x13_11,rfl,HA,HJ11,HO_4,BK253,BK257,HB⟩:=hcut
    cases kq with
    | zero=>exact absurd HA.out (by simp [impl_GoalRead.j0])
    | succ kj11=>
     have H:=HA.out
     clear HA
     simp only [impl_GoalRead.j0] at H
     by_cases c17:x13_11=true
     ·subst c17
      have H1:(impl_GoalRead.j2 kj11 a0 t254 2 ([]:List (S63)))=some (r1,r2,r3,r4,r5):=qz57
      clear H
      have H:=H1
      clear H1
      have H':=Aside0.mk H
      clear H
      have hnb18:=NB257_253.out
      have hnc18:=NB253_257.out
      have hcz19_0:wc.cell? ⟨gb257,0,none⟩=some (.int .i64 1):=(blk_cell BK257.out 0).trans rfl
      have hcz19_1:wc.cell? ⟨gb257,1,none⟩=some (.slice none 0 0):=(blk_cell BK257.out 1).trans rfl
      have hcz19_2:wc.cell? ⟨gb257,2,none⟩=some (.slice none 0 0):=(blk_cell BK257.out 2).trans rfl
      have hcz19_3:wc.cell? ⟨gb257,3,none⟩=some (.slice none 0 0):=(blk_cell BK257.out 3).trans rfl
      have hfz19_0:=blk_frozen BK257.out 0
      have hfz19_1:=blk_frozen BK257.out 1
      have hfz19_2:=blk_frozen BK257.out 2
      have hfz19_3:=blk_frozen BK257.out 3
      go_wp2
      go_meet
      case rel=>exact ⟨_,(0),(2),(([]:List (S63))),(.slice none 0 0),H',⟨by have:=HJ11.out;first|omega|exact Nat.le_refl _⟩,⟨by (with_reducible repeat (first|apply Kd.R_alloc|apply Kd.R_drewN|apply Kd.R_drew));exact Kd.R_mono (Kd.R_far (p:=⟨gb257,0,none⟩) (Kd.R_types HO_4.out BK257.out (by decide)) (fun _ hk=>hk.2) (.int .i64 2)) (fun _ hk=>trivial)⟩,⟨qz35⟩,⟨qz51⟩,⟨qz97⟩,⟨qz7⟩⟩
     ·replace c17:=Bool.eq_false_iff.mpr c17
      subst c17
      have H1:(if (t254.length:Int)=3 then (if 1<(t254.length:Int) then (impl_GoalRead.j1 kj11 a0 t254 ((rdOf ByteArray.empty t254 1).toList == ([60]:List UInt8)) 1) else (none)) else (impl_GoalRead.j1 kj11 a0 t254 false 1))=some (r1,r2,r3,r4,r5):=qz23
      clear H
      have H:=H1
      clear H1
      have HC20:=Aside0.mk H
      clear H
      go_upto_region 7 with (fail)
      go_cut [24] (fun v24 wc=>∃ (kq:Nat) (x24_19:Bool),v24 = .bool x24_19∧Aside0 (impl_GoalRead.j1 kq a0 t254 x24_19 1=some (r1,r2,r3,r4,r5))∧Aside0 (kq≤kj11)∧Aside0 (Kd.R Kd.string 9 wc w.heap.size (fun _=>True) v255 t254)∧Aside0 (wc.heap[gb253]?=some (.cells #[.int .i64 0,(.slice none 0 0),(.slice none 0 0),(.slice none 0 0)] 24 (0,0)))∧Aside0 (wc.heap[gb257]?=some (.cells #[.int .i64 1,(.slice none 0 0),(.slice none 0 0),(.slice none 0 0)] 24 (0,0)))∧Aside0 (Below w.heap.size w wc))
      case first=>
       have H:=HC20.out
       clear HC20
       by_cases c21:(t254.length:Int)=3
       ·rw [if_pos c21] at H
        have c21b0:((t254.length:Int) == 3)=true:=beq_iff_eq.mpr c21
        have c21b1:((t254.length:Int) != 3)=false:=bne_eq_false_iff_eq.mpr c21
        clear c21
        (first|rw [c21b0]|rw [c21b1]|(simp only [i64_w,i32_w];rw [c21b0])|skip)
        by_cases c22:1<(t254.length:Int)
        ·rw [if_pos c22] at H
         have c22b0:decide (1<(t254.length:Int))=true:=decide_eq_true c22
         have c22b1:decide (1<t254.length)=true:=decide_eq_true (by omega)
         clear c22
         have H':=Aside0.mk H
         clear H
         obtain ⟨Ao23,co23,eo23⟩:=Kd.R_slice HO_4.out
         subst eo23
         have p259:0≤(1:Int):=(by omega)
         have q259:1<(t254.length:Int):=of_decide_eq_true qz5
         obtain ⟨ad259,e259,hx259_0⟩:=Kd.at_string (Kd.R_reads' HO_4.out).2.2 1 p259 q259
         cases e259
         (try simp only [show (1:Int).toNat=1 from rfl,Nat.reduceMul,Nat.reduceEqDiff,Go.Addr.add,↓reduceIte] at hx259_0)
         have qi259:(1<t254.length)=True:=eq_true (by omega)
         (try rw [show ((1:Int)).toNat=1 from rfl] at hx259_0)
         replace p259:=eq_true p259
         replace q259:=eq_true q259
         go_wp2
         go_meet
         case rel=>exact ⟨_,(((rdOf ByteArray.empty t254 1).toList == ([60]:List UInt8))),qz9,H',⟨by have:=HJ11.out;first|omega|exact Nat.le_refl _⟩,⟨qz18⟩,⟨qz52⟩,⟨qz76⟩,⟨qz7⟩⟩
        ·rw [if_neg c22] at H
         exact absurd H (by simp)
       ·rw [if_neg c21] at H
        have c21b0:((t254.length:Int) == 3)=false:=beq_eq_false_iff_ne.mpr c21
        have c21b1:((t254.length:Int) != 3)=true:=bne_iff_ne.mpr c21
        (first|rw [c21b0]|rw [c21b1]|(simp only [i64_w,i32_w];rw [c21b0])|skip)
        have H':=Aside0.mk H
        clear H
        obtain ⟨Ao24,co24,eo24⟩:=Kd.R_slice HO_4.out
        subst eo24
        go_wp2
        go_meet
        case rel=>exact ⟨_,(false),qz9,H',⟨by have:=HJ11.out;first|omega|exact Nat.le_refl _⟩,⟨qz18⟩,⟨qz52⟩,⟨qz76⟩,⟨qz7⟩⟩
      case rest=>
       clear HC20
       try clear c1
       try clear c2
       try clear p2
       try clear q2
       try clear hx2
       try clear qi2
       try clear c7
       try clear c9
       try clear c9b0
       try clear c9b1
       try clear c10
       try clear c13
       try clear c13b0
       try clear c13b1
       try clear c14
       try clear c14b0
       try clear c14b1
       try clear c17
       try clear c18
       try clear c21
       try clear c21b0
       try clear c21b1
       try clear c22
       try clear c22b0
       try clear c22b1
       try clear hcz11_0
       try clear hcz11_1
       try clear hcz11_2
       try clear hcz11_3
       try clear hcz19_0
       try clear hcz19_1
       try clear hcz19_2
       try clear hcz19_3
       try clear hcz8_0
       try clear hcz8_1
       try clear hcz8_2
       try clear hcz8_3
       try clear hfz11_0
       try clear hfz11_1
       try clear hfz11_2
       try clear hfz11_3
       try clear hfz19_0
       try clear hfz19_1
       try clear hfz19_2
       try clear hfz19_3
       try clear hfz8_0
       try clear hfz8_1
       try clear hfz8_2
       try clear hfz8_3
       try clear hx258_0
       try clear hx259_0
       try clear p2
       try clear p258
       try clear p259
       try clear q2
       try clear q258
       try clear q259
       obtain ⟨kq,x24_19,rfl,HA,HJ19,HO_4,BK253,BK257,HB⟩:=hcut
       cases kq with
       | zero=>exact absurd HA.out (by simp [impl_GoalRead.j1])
       | succ kj19=>
        have H:=HA.out
        clear HA
        simp only [impl_GoalRead.j1] at H
        by_cases c25:x24_19=true
        ·subst c25
         have H1:(impl_GoalRead.j2 kj19 a0 t254 4 ([]:List (S63)))=some (r1,r2,r3,r4,r5):=qz57
         clear H
         have H:=H1
         clear H1
         have H':=Aside0.mk H
         clear H
         have hnb26:=NB257_253.out
         have hnc26:=NB253_257.out
         have hcz27_0:wc.cell? ⟨gb257,0,none⟩=some (.int .i64 1):=(blk_cell BK257.out 0).trans rfl
         have hcz27_1:wc.cell? ⟨gb257,1,none⟩=some (.slice none 0 0):=(blk_cell BK257.out 1).trans rfl
         have hcz27_2:wc.cell? ⟨gb257,2,none⟩=some (.slice none 0 0):=(blk_cell BK257.out 2).trans rfl
         have hcz27_3:wc.cell? ⟨gb257,3,none⟩=some (.slice none 0 0):=(blk_cell BK257.out 3).trans rfl
         have hfz27_0:=blk_frozen BK257.out 0
         have hfz27_1:=blk_frozen BK257.out 1
         have hfz27_2:=blk_frozen BK257.out 2
         have hfz27_3:=blk_frozen BK257.out 3
         go_wp2
         go_meet
         case rel=>exact ⟨_,(0),(4),(([]:List (S63))),(.slice none 0 0),H',⟨qz182⟩,⟨by (with_reducible repeat (first|apply Kd.R_alloc|apply Kd.R_drewN|apply Kd.R_drew));exact Kd.R_mono (Kd.R_far (p:=⟨gb257,0,none⟩) (Kd.R_types HO_4.out BK257.out (by decide)) (fun _ hk=>hk.2) (.int .i64 4)) (fun _ hk=>trivial)⟩,⟨qz35⟩,⟨qz51⟩,⟨qz97⟩,⟨qz7⟩⟩
        ·replace c25:=Bool.eq_false_iff.mpr c25
         subst c25
         have H1:(if (t254.length:Int)=5 then (if 4<(t254.length:Int) then ((impl_TrmRead.f kj19 (rdOf ByteArray.empty t254 4)).bind fun bt261=>(impl_GoalRead.j2 kj19 a0 t254 5 bt261.1)) else (none)) else (impl_GoalRead.j2 kj19 a0 t254 1 ([]:List (S63))))=some (r1,r2,r3,r4,r5):=qz23
         clear H
         have H:=H1
         clear H1
         by_cases c28:(t254.length:Int)=5
         ·rw [if_pos c28] at H
          have c28b0:((t254.length:Int) == 5)=true:=beq_iff_eq.mpr c28
          have c28b1:((t254.length:Int) != 5)=false:=bne_eq_false_iff_eq.mpr c28
          clear c28
          by_cases c29:4<(t254.length:Int)
          ·rw [if_pos c29] at H
           have c29b0:decide (4<(t254.length:Int))=true:=decide_eq_true c29
           have c29b1:decide (4<t254.length)=true:=decide_eq_true (by omega)
           clear c29
           replace H:=Option.bind_eq_some_iff.mp H
           obtain ⟨⟨t261,t262⟩,A300,H⟩:=H
           try dsimp only at H
           have A30:=Aside0.mk A300
           clear A300
           have H':=Aside0.mk H
           clear H
           obtain ⟨Ao31,co31,eo31⟩:=Kd.R_slice HO_4.out
           subst eo31
           have hnb32:=NB257_253.out
           have hnc32:=NB253_257.out
           have hcz33_0:wc.cell? ⟨gb257,0,none⟩=some (.int .i64 1):=(blk_cell BK257.out 0).trans rfl
           have hcz33_1:wc.cell? ⟨gb257,1,none⟩=some (.slice none 0 0):=(blk_cell BK257.out 1).trans rfl
           have hcz33_2:wc.cell? ⟨gb257,2,none⟩=some (.slice none 0 0):=(blk_cell BK257.out 2).trans rfl
           have hcz33_3:wc.cell? ⟨gb257,3,none⟩=some (.slice none 0 0):=(blk_cell BK257.out 3).trans rfl
           have hfz33_0:=blk_frozen BK257.out 0
           have hfz33_1:=blk_frozen BK257.out 1
           have hfz33_2:=blk_frozen BK257.out 2
           have hfz33_3:=blk_frozen BK257.out 3
           have p260:0≤(4:Int):=(by omega)
           have q260:4<(t254.length:Int):=of_decide_eq_true qz5
           obtain ⟨ad260,e260,hx260_0⟩:=Kd.at_string (Kd.R_reads' HO_4.out).2.2 4 p260 q260
           cases e260
           (try simp only [show (4:Int).toNat=4 from rfl,Nat.reduceMul,Nat.reduceEqDiff,Go.Addr.add,↓reduceIte] at hx260_0)
           have qi260:(4<t254.length)=True:=eq_true (by omega)
           (try rw [show ((4:Int)).toNat=4 from rfl] at hx260_0)
           have hn260_0:ad260.block≠gb257:=Kd.own_blk (by first|exact Kd.R_ne HO_4.out BK257.out (by decide)|exact fun he_=>(HO_4.out.1 _ he_.symm).2 rfl)
           replace hx260_0:=(cell_far (p:=⟨gb257,0,none⟩) (by first|(rw [add_block];exact hn260_0)|(show (Addr.add _ _).block≠_;rw [add_block];exact hn260_0)|exact hn260_0) (.int .i64 5)).trans hx260_0
           clear hn260_0
           replace p260:=eq_true p260
           replace q260:=eq_true q260
           go_wp2_with (first|((with_reducible refine gate_callee (f:=27) rfl ?_);refine goesL_ (some 44) rfl rfl Tryz.func27 (by kernel_rfl) rfl #[.string (rdOf ByteArray.empty t254 4)] rfl qz2 ?_;(with_reducible refine (impl_TrmRead.calls (hE_:=HQE_.out.below qz7) (hT_:=HQT_.out.below qz7) kj19 (rdOf ByteArray.empty t254 4) t261 t262 _ A30.out).mono ?_);rintro e w34 ⟨v263,rfl,ho0,hb⟩;refine ⟨_,rfl,?_⟩;have n0_:=Aside0.mk (Kd.R_below (by (with_reducible repeat (first|apply Kd.R_alloc|apply Kd.R_drewN|apply Kd.R_drew));exact (Kd.R_mono (Kd.R_far (p:=⟨gb257,0,none⟩) (Kd.R_types HO_4.out BK257.out (by decide)) (fun _ hk=>hk.2) (.int .i64 5)) (fun _ h_=>h_.1))) hb);have n1_:=Aside0.mk (Kd.R_lower ho0 (below_size qz7));have n2_:=Aside0.mk (blk_below (g:=gb253) (o:=.cells #[.int .i64 0,.slice none 0 0,.slice none 0 0,.slice none 0 0] 24 (0,0)) qz51 hb);have n3_:=Aside0.mk (blk_below (g:=gb257) (o:=.cells #[.int .i64 5,.slice none 0 0,.slice none 0 0,.slice none 0 0] 24 (0,0)) qz97 hb);have n4_:=Aside0.mk (below_step qz7 hb);clear HO_4 BK253 BK257 HB;have HO_4:=n0_;have HO264:=n1_;have BK253:=n2_;have BK257:=n3_;have HB:=n4_;clear n0_ n1_ n2_ n3_ n4_;(try clear hb);(try clear hb2);(try clear hk);(try clear hi);(try clear ho0);obtain ⟨Ao35,co35,eo35⟩:=Kd.R_slice HO264.out;subst eo35;have hcz36_0:w34.cell? ⟨gb257,0,none⟩=some (.int .i64 5):=(blk_cell BK257.out 0).trans rfl;have hcz36_1:w34.cell? ⟨gb257,1,none⟩=some (.slice none 0 0):=(blk_cell BK257.out 1).trans rfl;have hcz36_2:w34.cell? ⟨gb257,2,none⟩=some (.slice none 0 0):=(blk_cell BK257.out 2).trans rfl;have hcz36_3:w34.cell? ⟨gb257,3,none⟩=some (.slice none 0 0):=(blk_cell BK257.out 3).trans rfl;have hfz36_0:=blk_frozen BK257.out 0;have hfz36_1:=blk_frozen BK257.out 1;have hfz36_2:=blk_frozen BK257.out 2;have hfz36_3:=blk_frozen BK257.out 3))
           go_meet
           case rel=>exact ⟨_,(0),(5),(t261),(.slice Ao35 t261.length co35),H',⟨qz182⟩,⟨by (with_reducible repeat (first|apply Kd.R_alloc|apply Kd.R_drewN|apply Kd.R_drew));exact Kd.R_mono (Kd.R_far (p:=⟨gb257,3,none⟩) (Kd.R_types HO_4.out BK257.out (by decide)) (fun _ hk=>hk.2) (.slice Ao35 t261.length co35)) (fun _ hk=>trivial)⟩,⟨by (with_reducible repeat (first|apply Kd.R_alloc|apply Kd.R_drewN|apply Kd.R_drew));exact Kd.R_mono (Kd.R_far (p:=⟨gb257,3,none⟩) (Kd.R_types HO264.out BK257.out (by decide)) (fun _ hk=>hk.2) (.slice Ao35 t261.length co35)) (fun _ hk=>trivial)⟩,⟨qz51⟩,⟨by (with_reducible repeat (first|refine blk_drewN ?_ _|refine blk_drew ?_|refine blk_alloc ?_ _));refine blk_put (cs:=#[.int .i64 5,.slice none 0 0,.slice none 0 0,.slice none 0 0]) ?_ 3 _ rfl;(with_reducible repeat (first|refine blk_drewN ?_ _|refine blk_drew ?_|refine blk_alloc ?_ _));exact BK257.out⟩,⟨qz7⟩⟩
          ·rw [if_neg c29] at H
           exact absurd H (by simp)
         ·rw [if_neg c28] at H
          have c28b0:((t254.length:Int) == 5)=false:=beq_eq_false_iff_ne.mpr c28
          have c28b1:((t254.length:Int) != 5)=true:=bne_iff_ne.mpr c28
          have H':=Aside0.mk H
          clear H
          obtain ⟨Ao37,co37,eo37⟩:=Kd.R_slice HO_4.out
          subst eo37
          go_wp2
          go_meet
          case rel=>exact ⟨_,(0),(1),(([]:List (S63))),(.slice none 0 0),H',⟨qz182⟩,⟨qz18⟩,⟨qz35⟩,⟨qz52⟩,⟨qz76⟩,⟨qz7⟩⟩
 case rest=>
  clear HC3
  try clear c1
  try clear c2
  try clear p2
  try clear q2
  try clear hx2
  try clear qi2
  try clear c3
  try clear c7
  try clear c9
  try clear c9b0
  try clear c9b1
  try clear c10
  try clear c13
  try clear c13b0
  try clear c13b1
  try clear c14
  try clear c14b0
  try clear c14b1
  try clear c17
  try clear c18
  try clear c21
  try clear c21b0
  try clear c21b1
  try clear c22
  try clear c22b0
  try clear c22b1
  try clear c25
  try clear p25
  try clear q25
  try clear hx25
  try clear qi25
  try clear c26
  try clear p26
  try clear q26
  try clear hx26
  try clear qi26
  try clear c27
  try clear c28
  try clear c28b0
  try clear c28b1
  try clear c29
  try clear c29b0
  try clear c29b1
  try clear c32
  try clear hcz11_0
  try clear hcz11_1
  try clear hcz11_2
  try clear hcz11_3
  try clear hcz19_0
  try clear hcz19_1
  try clear hcz19_2
  try clear hcz19_3
  try clear hcz27_0
  try clear hcz27_1
  try clear hcz27_2
  try clear hcz27_3
  try clear hcz33_0
  try clear hcz33_1
  try clear hcz33_2
  try clear hcz33_3
  try clear hcz36_0
  try clear hcz36_1
  try clear hcz36_2
  try clear hcz36_3
  try clear hcz8_0
  try clear hcz8_1
  try clear hcz8_2
  try clear hcz8_3
  try clear hfz11_0
  try clear hfz11_1
  try clear hfz11_2
  try clear hfz11_3
  try clear hfz19_0
  try clear hfz19_1
  try clear hfz19_2
  try clear hfz19_3
  try clear hfz27_0
  try clear hfz27_1
  try clear hfz27_2
  try clear hfz27_3
  try clear hfz33_0
  try clear hfz33_1
  try clear hfz33_2
  try clear hfz33_3
  try clear hfz36_0
  try clear hfz36_1
  try clear hfz36_2
  try clear hfz36_3
  try clear hfz8_0
  try clear hfz8_1
  try clear hfz8_2
  try clear hfz8_3
  try clear hx258_0
  try clear hx259_0
  try clear hx260_0
  try clear p2
  try clear p258
  try clear p259
  try clear p260
  try clear q2
  try clear q258
  try clear q259
  try clear q260
  obtain ⟨kq,x254000_2,x258000_2,x258003_2,u258003,HA,HJ2,HO_4,HO_258003,BK253,BK257,HB⟩:=hcut
  cases kq with
  | zero=>exact absurd HA.out (by simp [impl_GoalRead.j2])
  | succ kj2=>
   have H:=HA.out
   clear HA
   simp only [impl_GoalRead.j2] at H
   by_cases c38:0<(t254.length:Int)
   ·rw [if_pos c38] at H
    have c38b0:decide (0<(t254.length:Int))=true:=decide_eq_true c38
    have c38b1:decide (0<t254.length)=true:=decide_eq_true (by omega)
    clear c38
    replace H:=Option.bind_eq_some_iff.mp H
    obtain ⟨⟨t266,t267⟩,A390,H⟩:=H
    try dsimp only at H
    have A39:=Aside0.mk A390
    clear A390
    have HC40:=Aside0.mk H
    clear H
    obtain ⟨Ao41,co41,eo41⟩:=Kd.R_slice HO_4.out
    subst eo41
    have p265:0≤(0:Int):=(by omega)
    have q265:0<(t254.length:Int):=of_decide_eq_true qz5
    obtain ⟨ad265,e265,hx265_0⟩:=Kd.at_string (Kd.R_reads' HO_4.out).2.2 0 p265 q265
    cases e265
    have qi265:(0<t254.length)=True:=eq_true (by omega)
    (try rw [show ((0:Int)).toNat=0 from rfl] at hx265_0)
    (try rw [Addr.add_zero'] at hx265_0)
    replace p265:=eq_true p265
    replace q265:=eq_true q265
    go_upto_if 58 with (first|((with_reducible refine gate_callee (f:=27) rfl ?_);refine goesL_ (some 52) rfl rfl Tryz.func27 (by kernel_rfl) rfl #[.string (rdOf ByteArray.empty t254 0)] rfl qz2 ?_;(with_reducible refine (impl_TrmRead.calls (hE_:=HQE_.out.below qz7) (hT_:=HQT_.out.below qz7) kj2 (rdOf ByteArray.empty t254 0) t266 t267 _ A39.out).mono ?_);rintro e w42 ⟨v268,rfl,ho0,hb⟩;refine ⟨_,rfl,?_⟩;have n0_:=Aside0.mk (Kd.R_below qz18 hb);have n1_:=Aside0.mk (Kd.R_elder' qz99 (Kd.R_base ho0) hb);have n2_:=Aside0.mk (Kd.R_lower (Kd.R_new' ho0 (Kd.R_lt qz99)) (below_size qz7));have n3_:=Aside0.mk (blk_below (g:=gb253) (o:=.cells #[.int .i64 x254000_2,.slice none 0 0,.slice none 0 0,.slice none 0 0] 24 (0,0)) qz52 hb);have n4_:=Aside0.mk (blk_below (g:=gb257) (o:=.cells #[.int .i64 x258000_2,.slice none 0 0,.slice none 0 0,u258003] 24 (0,0)) qz76 hb);have n5_:=Aside0.mk (below_step qz7 hb);clear HO_4 HO_258003 BK253 BK257 HB;have HO_4:=n0_;have HO_258003:=n1_;have HO269:=n2_;have BK253:=n3_;have BK257:=n4_;have HB:=n5_;clear n0_ n1_ n2_ n3_ n4_ n5_;(try clear hb);(try clear hb2);(try clear hk);(try clear hi);(try clear ho0);obtain ⟨Ao43,co43,eo43⟩:=Kd.R_slice HO269.out;subst eo43;have hnb44:=NB257_253.out;have hnc44:=NB253_257.out;have hcz45_0:w42.cell? ⟨gb257,0,none⟩=some (.int .i64 x258000_2):=(blk_cell BK257.out 0).trans rfl;have hcz45_1:w42.cell? ⟨gb257,1,none⟩=some (.slice none 0 0):=(blk_cell BK257.out 1).trans rfl;have hcz45_2:w42.cell? ⟨gb257,2,none⟩=some (.slice none 0 0):=(blk_cell BK257.out 2).trans rfl;have hcz45_3:w42.cell? ⟨gb257,3,none⟩=some (u258003):=(blk_cell BK257.out 3).trans rfl;have hfz45_0:=blk_frozen BK257.out 0;have hfz45_1:=blk_frozen BK257.out 1;have hfz45_2:=blk_frozen BK257.out 2;have hfz45_3:=blk_frozen BK257.out 3))
    (try simp only [Act.put,List.setIfInBounds_toArray,List.set_cons_zero,List.set_cons_succ])
    go_cut [] (fun wc=>∃ (kq:Nat) (x258002_39:List (S63)) (u258002:Value),Aside0 (impl_GoalRead.j3 kq a0 x258000_2 t266 x258002_39 x258003_2=some (r1,r2,r3,r4,r5))∧Aside0 (kq≤kj2)∧Aside0 (Kd.R k63 63 wc w.heap.size (fun k_=>some k_≠(u258002:Value).ownBlock∧some k_≠(u258003:Value).ownBlock) (.slice Ao43 t266.length co43) t266)∧Aside0 (Kd.R k63 63 wc w.heap.size (fun k_=>some k_≠((.slice Ao43 t266.length co43):Value).ownBlock∧some k_≠(u258003:Value).ownBlock) u258002 x258002_39)∧Aside0 (Kd.R k63 63 wc w.heap.size (fun k_=>some k_≠((.slice Ao43 t266.length co43):Value).ownBlock∧some k_≠(u258002:Value).ownBlock) u258003 x258003_2)∧Aside0 (wc.heap[gb253]?=some (.cells #[.int .i64 x254000_2,(.slice none 0 0),(.slice none 0 0),(.slice none 0 0)] 24 (0,0)))∧Aside0 (wc.heap[gb257]?=some (.cells #[.int .i64 x258000_2,(.slice Ao43 t266.length co43),u258002,u258003] 24 (0,0)))∧Aside0 (Below w.heap.size w wc))
    case first=>
     have H:=HC40.out
     clear HC40
     by_cases c46:(t254.length:Int) > 2
     ·rw [if_pos c46] at H
      have c46b0:decide (2<(t254.length:Int))=true:=decide_eq_true c46
      have c46b1:decide (2<t254.length)=true:=decide_eq_true (by omega)
      clear c46
      (first|rw [c46b0]|rw [c46b1]|(simp only [i64_w,i32_w];rw [c46b0])|skip)
      by_cases c47:2<(t254.length:Int)
      ·rw [if_pos c47] at H
       have c47b0:decide (2<(t254.length:Int))=true:=decide_eq_true c47
       have c47b1:decide (2<t254.length)=true:=decide_eq_true (by omega)
       clear c47
       replace H:=Option.bind_eq_some_iff.mp H
       obtain ⟨⟨t271,t272⟩,A480,H⟩:=H
       try dsimp only at H
       have A48:=Aside0.mk A480
       clear A480
       have H':=Aside0.mk H
       clear H
       have p270:0≤(2:Int):=(by omega)
       have q270:2<(t254.length:Int):=of_decide_eq_true qz5
       obtain ⟨ad270,e270,hx270_0⟩:=Kd.at_string (Kd.R_reads' HO_4.out).2.2 2 p270 q270
       obtain rfl:ad265=ad270:=(by injection e270)
       (try simp only [show (2:Int).toNat=2 from rfl,Nat.reduceMul,Nat.reduceEqDiff,Go.Addr.add,↓reduceIte] at hx270_0)
       have qi270:(2<t254.length)=True:=eq_true (by omega)
       (try rw [show ((2:Int)).toNat=2 from rfl] at hx270_0)
       have hn270_0:ad265.block≠gb257:=Kd.own_blk (by first|exact Kd.R_ne HO_4.out BK257.out (by decide)|exact fun he_=>(HO_4.out.1 _ he_.symm).2 rfl)
       replace hx270_0:=(cell_far (p:=⟨gb257,1,none⟩) (by first|(rw [add_block];exact hn270_0)|(show (Addr.add _ _).block≠_;rw [add_block];exact hn270_0)|exact hn270_0) (.slice Ao43 t266.length co43)).trans hx270_0
       clear hn270_0
       replace p270:=eq_true p270
       replace q270:=eq_true q270
       go_wp2_with (first|((with_reducible refine gate_callee (f:=27) rfl ?_);refine goesL_ (some 63) rfl rfl Tryz.func27 (by kernel_rfl) rfl #[.string (rdOf ByteArray.empty t254 2)] rfl qz2 ?_;(with_reducible refine (impl_TrmRead.calls (hE_:=HQE_.out.below qz7) (hT_:=HQT_.out.below qz7) kj2 (rdOf ByteArray.empty t254 2) t271 t272 _ A48.out).mono ?_);rintro e w49 ⟨v273,rfl,ho0,hb⟩;refine ⟨_,rfl,?_⟩;have n0_:=Aside0.mk (Kd.R_below (by (with_reducible repeat (first|apply Kd.R_alloc|apply Kd.R_drewN|apply Kd.R_drew));exact (Kd.R_mono (Kd.R_far (p:=⟨gb257,1,none⟩) (Kd.R_types HO_4.out BK257.out (by decide)) (fun _ hk=>hk.2) (.slice Ao43 t266.length co43)) (fun _ h_=>h_.1))) hb);have n1_:=Aside0.mk (Kd.R_elder' qz145 (Kd.R_base ho0) hb);have n2_:=Aside0.mk (Kd.R_elder' qz146 (Kd.R_base ho0) hb);have n3_:=Aside0.mk (Kd.R_lower (Kd.R_new' (Kd.R_new' ho0 (Kd.R_lt qz145)) (Kd.R_lt qz146)) (below_size qz7));have n4_:=Aside0.mk (blk_below (g:=gb253) (o:=.cells #[.int .i64 x254000_2,.slice none 0 0,.slice none 0 0,.slice none 0 0] 24 (0,0)) qz51 hb);have n5_:=Aside0.mk (blk_below (g:=gb257) (o:=.cells #[.int .i64 x258000_2,.slice Ao43 t266.length co43,.slice none 0 0,u258003] 24 (0,0)) qz133 hb);have n6_:=Aside0.mk (below_step qz7 hb);clear HO_4 HO_258003 HO269 BK253 BK257 HB;have HO_4:=n0_;have HO_258003:=n1_;have HO269:=n2_;have HO274:=n3_;have BK253:=n4_;have BK257:=n5_;have HB:=n6_;clear n0_ n1_ n2_ n3_ n4_ n5_ n6_;(try clear hb);(try clear hb2);(try clear hk);(try clear hi);(try clear ho0);obtain ⟨Ao50,co50,eo50⟩:=Kd.R_slice HO274.out;subst eo50;have hnb51:=NB257_253.out;have hnc51:=NB253_257.out;have hcz52_0:w49.cell? ⟨gb257,0,none⟩=some (.int .i64 x258000_2):=(blk_cell BK257.out 0).trans rfl;have hcz52_1:w49.cell? ⟨gb257,1,none⟩=some (.slice Ao43 t266.length co43):=(blk_cell BK257.out 1).trans rfl;have hcz52_2:w49.cell? ⟨gb257,2,none⟩=some (.slice none 0 0):=(blk_cell BK257.out 2).trans rfl;have hcz52_3:w49.cell? ⟨gb257,3,none⟩=some (u258003):=(blk_cell BK257.out 3).trans rfl;have hfz52_0:=blk_frozen BK257.out 0;have hfz52_1:=blk_frozen BK257.out 1;have hfz52_2:=blk_frozen BK257.out 2;have hfz52_3:=blk_frozen BK257.out 3))
       go_meet
       case rel=>exact ⟨_,(t271),(.slice Ao50 t271.length co50),H',⟨by have:=HJ2.out;first|omega|exact Nat.le_refl _⟩,⟨by (with_reducible repeat (first|apply Kd.R_alloc|apply Kd.R_drewN|apply Kd.R_drew));exact Kd.R_mono (Kd.R_far (p:=⟨gb257,2,none⟩) (Kd.R_types HO269.out BK257.out (by decide)) (fun _ hk=>hk.2) (.slice Ao50 t271.length co50)) (fun _ hk=>⟨hk.1.2,hk.1.1.2⟩)⟩,⟨by (with_reducible repeat (first|apply Kd.R_alloc|apply Kd.R_drewN|apply Kd.R_drew));exact Kd.R_mono (Kd.R_far (p:=⟨gb257,2,none⟩) (Kd.R_types HO274.out BK257.out (by decide)) (fun _ hk=>hk.2) (.slice Ao50 t271.length co50)) (fun _ hk=>⟨hk.1.2,hk.1.1.2⟩)⟩,⟨by (with_reducible repeat (first|apply Kd.R_alloc|apply Kd.R_drewN|apply Kd.R_drew));exact Kd.R_mono (Kd.R_far (p:=⟨gb257,2,none⟩) (Kd.R_types HO_258003.out BK257.out (by decide)) (fun _ hk=>hk.2) (.slice Ao50 t271.length co50)) (fun _ hk=>⟨hk.1.1.2,hk.1.2⟩)⟩,⟨qz51⟩,⟨by (with_reducible repeat (first|refine blk_drewN ?_ _|refine blk_drew ?_|refine blk_alloc ?_ _));refine blk_put (cs:=#[.int .i64 x258000_2,.slice Ao43 t266.length co43,.slice none 0 0,u258003]) ?_ 2 _ rfl;(with_reducible repeat (first|refine blk_drewN ?_ _|refine blk_drew ?_|refine blk_alloc ?_ _));exact BK257.out⟩,⟨qz7⟩⟩
      ·rw [if_neg c47] at H
       exact absurd H (by simp)
     ·rw [if_neg c46] at H
      have c46b0:decide (2<(t254.length:Int))=false:=decide_eq_false c46
      have c46b1:decide (2<t254.length)=false:=decide_eq_false (by omega)
      clear c46
      (first|rw [c46b0]|rw [c46b1]|(simp only [i64_w,i32_w];rw [c46b0])|skip)
      have H':=Aside0.mk H
      clear H
      go_wp2
      go_meet
      case rel=>exact ⟨_,(([]:List (S63))),(.slice none 0 0),H',⟨by have:=HJ2.out;first|omega|exact Nat.le_refl _⟩,⟨by (with_reducible repeat (first|apply Kd.R_alloc|apply Kd.R_drewN|apply Kd.R_drew));exact Kd.R_mono (Kd.R_far (p:=⟨gb257,1,none⟩) (Kd.R_types HO269.out BK257.out (by decide)) (fun _ hk=>hk.2) (.slice Ao43 t266.length co43)) (fun _ hk=>⟨(by simp [Value.ownBlock]),hk.1.2⟩)⟩,⟨qz35⟩,⟨by (with_reducible repeat (first|apply Kd.R_alloc|apply Kd.R_drewN|apply Kd.R_drew));exact Kd.R_mono (Kd.R_far (p:=⟨gb257,1,none⟩) (Kd.R_types HO_258003.out BK257.out (by decide)) (fun _ hk=>hk.2) (.slice Ao43 t266.length co43)) (fun _ hk=>⟨hk.1.2,(by simp [Value.ownBlock])⟩)⟩,⟨qz51⟩,⟨qz133⟩,⟨qz7⟩⟩
    case rest=>
     clear HC40
     try clear c1
     try clear c2
     try clear p2
     try clear q2
     try clear hx2
     try clear qi2
     try clear c3
     try clear c4
     try clear c5
     try clear c7
     try clear c9
     try clear c9b0
     try clear c9b1
     try clear c10
     try clear c13
     try clear c13b0
     try clear c13b1
     try clear c14
     try clear c14b0
     try clear c14b1
     try clear c17
     try clear c18
     try clear c21
     try clear c21b0
     try clear c21b1
     try clear c22
     try clear c22b0
     try clear c22b1
     try clear c25
     try clear p25
     try clear q25
     try clear hx25
     try clear qi25
     try clear c26
     try clear p26
     try clear q26
     try clear hx26
     try clear qi26
     try clear c27
     try clear p27
     try clear q27
     try clear hx27
     try clear qi27
     try clear c28
     try clear c28b0
     try clear c28b1
     try clear c29
     try clear c29b0
     try clear c29b1
     try clear c32
     try clear c38
     try clear c38b0
     try clear c38b1
     try clear c44
     try clear c46
     try clear c46b0
     try clear c46b1
     try clear c47
     try clear c47b0
     try clear c47b1
     try clear c51
     try clear hcz11_0
     try clear hcz11_1
     try clear hcz11_2
     try clear hcz11_3
     try clear hcz19_0
     try clear hcz19_1
     try clear hcz19_2
     try clear hcz19_3
     try clear hcz27_0
     try clear hcz27_1
     try clear hcz27_2
     try clear hcz27_3
     try clear hcz33_0
     try clear hcz33_1
     try clear hcz33_2
     try clear hcz33_3
     try clear hcz36_0
     try clear hcz36_1
     try clear hcz36_2
     try clear hcz36_3
     try clear hcz45_0
     try clear hcz45_1
     try clear hcz45_2
     try clear hcz45_3
     try clear hcz52_0
     try clear hcz52_1
     try clear hcz52_2
     try clear hcz52_3
     try clear hcz8_0
     try clear hcz8_1
     try clear hcz8_2
     try clear hcz8_3
     try clear hfz11_0
     try clear hfz11_1
     try clear hfz11_2
     try clear hfz11_3
     try clear hfz19_0
     try clear hfz19_1
     try clear hfz19_2
     try clear hfz19_3
     try clear hfz27_0
     try clear hfz27_1
     try clear hfz27_2
     try clear hfz27_3
     try clear hfz33_0
     try clear hfz33_1
     try clear hfz33_2
     try clear hfz33_3
     try clear hfz36_0
     try clear hfz36_1
     try clear hfz36_2
     try clear hfz36_3
     try clear hfz45_0
     try clear hfz45_1
     try clear hfz45_2
     try clear hfz45_3
     try clear hfz52_0
     try clear hfz52_1
     try clear hfz52_2
     try clear hfz52_3
     try clear hfz8_0
     try clear hfz8_1
     try clear hfz8_2
     try clear hfz8_3
     try clear hx258_0
     try clear hx259_0
     try clear hx260_0
     try clear hx265_0
     try clear hx270_0
     try clear p2
     try clear p25
     try clear p258
     try clear p259
     try clear p26
     try clear p260
     try clear p265
     try clear p270
     try clear q2
     try clear q25
     try clear q258
     try clear q259
     try clear q26
     try clear q260
     try clear q265
     try clear q270
     obtain ⟨kq,x258002_39,u258002,HA,HJ39,HO_258001,HO_258002,HO_258003,BK253,BK257,HB⟩:=hcut
     cases kq with
     | zero=>exact absurd HA.out (by simp [impl_GoalRead.j3])
     | succ kj39=>
      have H:=HA.out
      clear HA
      simp only [impl_GoalRead.j3] at H
      replace H:=Option.bind_eq_some_iff.mp H
      obtain ⟨t275,A530,H⟩:=H
      try dsimp only at H
      have A53:=Aside0.mk A530
      clear A530
      by_cases c54:t275=true
      ·subst c54
       have H1:((impl_GoalText.f kj39 x258000_2 t266 x258002_39 x258003_2).bind fun t276=>(if t276.toList=a0.toList then (some (x258000_2,t266,x258002_39,x258003_2,true)) else (some (0,([]:List (S63)),([]:List (S63)),([]:List (S63)),false))))=some (r1,r2,r3,r4,r5):=qz57
       clear H
       have H:=H1
       clear H1
       replace H:=Option.bind_eq_some_iff.mp H
       obtain ⟨t276,A550,H⟩:=H
       try dsimp only at H
       have A55:=Aside0.mk A550
       clear A550
       by_cases c56:t276.toList=a0.toList
       ·rw [if_pos c56] at H
        have c56b0:(t276.toList == a0.toList)=true:=beq_iff_eq.mpr c56
        have c56b1:(t276.toList != a0.toList)=false:=bne_eq_false_iff_eq.mpr c56
        clear c56
        simp only [Option.some.injEq,Prod.mk.injEq] at H
        obtain ⟨rfl,rfl,rfl,rfl,rfl⟩:=H
        have hnb57:=NB257_253.out
        have hnc57:=NB253_257.out
        have hcz58_0:wc.cell? ⟨gb257,0,none⟩=some (.int .i64 x258000_2):=(blk_cell BK257.out 0).trans rfl
        have hcz58_1:wc.cell? ⟨gb257,1,none⟩=some (.slice Ao43 t266.length co43):=(blk_cell BK257.out 1).trans rfl
        have hcz58_2:wc.cell? ⟨gb257,2,none⟩=some (u258002):=(blk_cell BK257.out 2).trans rfl
        have hcz58_3:wc.cell? ⟨gb257,3,none⟩=some (u258003):=(blk_cell BK257.out 3).trans rfl
        have hfz58_0:=blk_frozen BK257.out 0
        have hfz58_1:=blk_frozen BK257.out 1
        have hfz58_2:=blk_frozen BK257.out 2
        have hfz58_3:=blk_frozen BK257.out 3
        obtain ⟨Ao59,co59,eo59⟩:=Kd.R_slice HO_258002.out
        subst eo59
        obtain ⟨Ao60,co60,eo60⟩:=Kd.R_slice HO_258003.out
        subst eo60
        go_wp2_with (first|((with_reducible refine gate_callee (f:=16) rfl ?_);refine goesL_ (some 68) rfl rfl Tryz.func16 (by kernel_rfl) rfl #[.agg #[.int .i64 x258000_2,.slice Ao43 t266.length co43,.slice Ao59 x258002_39.length co59,.slice Ao60 x258003_2.length co60]] rfl qz2 ?_;(with_reducible refine (impl_GoalOk.calls x258000_2 _ _ t266 _ _ x258002_39 _ _ x258003_2 true _ ?side1 ?side2 ?side3 ?side4 ?side5 ?side6 A53.out).mono ?_);(case side1=>exact qz84);(case side2=>exact (Kd.R_reads' HO_258001.out).2.1);(case side3=>exact qz83);(case side4=>exact (Kd.R_reads' HO_258002.out).2.1);(case side5=>exact qz82);(case side6=>exact (Kd.R_reads' HO_258003.out).2.1);rintro e w61 ⟨rfl,hb⟩;refine ⟨_,rfl,?_⟩;have n0_:=Aside0.mk (Kd.R_below qz121 hb);have n1_:=Aside0.mk (Kd.R_below qz120 hb);have n2_:=Aside0.mk (Kd.R_below qz99 hb);have n3_:=Aside0.mk (blk_below (g:=gb253) (o:=.cells #[.int .i64 x254000_2,.slice none 0 0,.slice none 0 0,.slice none 0 0] 24 (0,0)) qz52 hb);have n4_:=Aside0.mk (blk_below (g:=gb257) (o:=.cells #[.int .i64 x258000_2,.slice Ao43 t266.length co43,.slice Ao59 x258002_39.length co59,.slice Ao60 x258003_2.length co60] 24 (0,0)) qz76 hb);have n5_:=Aside0.mk (below_step qz7 hb);clear HO_258001 HO_258002 HO_258003 BK253 BK257 HB;have HO_258001:=n0_;have HO_258002:=n1_;have HO_258003:=n2_;have BK253:=n3_;have BK257:=n4_;have HB:=n5_;clear n0_ n1_ n2_ n3_ n4_ n5_;(try clear hb);(try clear hb2);(try clear hk);(try clear hi);have hcz62_0:w61.cell? ⟨gb257,0,none⟩=some (.int .i64 x258000_2):=(blk_cell BK257.out 0).trans rfl;have hcz62_1:w61.cell? ⟨gb257,1,none⟩=some (.slice Ao43 t266.length co43):=(blk_cell BK257.out 1).trans rfl;have hcz62_2:w61.cell? ⟨gb257,2,none⟩=some (.slice Ao59 x258002_39.length co59):=(blk_cell BK257.out 2).trans rfl;have hcz62_3:w61.cell? ⟨gb257,3,none⟩=some (.slice Ao60 x258003_2.length co60):=(blk_cell BK257.out 3).trans rfl;have hfz62_0:=blk_frozen BK257.out 0;have hfz62_1:=blk_frozen BK257.out 1;have hfz62_2:=blk_frozen BK257.out 2;have hfz62_3:=blk_frozen BK257.out 3)|(go_at_call 13;(with_reducible refine (impl_GoalText.calls (hT_:=HQT_.out.below qz7) kj39 x258000_2 _ _ t266 _ _ x258002_39 _ _ x258003_2 t276 _ ?side1 ?side2 ?side3 ?side4 ?side5 ?side6 A55.out).mono ?_);(case side1=>exact qz84);(case side2=>exact (Kd.R_reads' HO_258001.out).2.1);(case side3=>exact qz83);(case side4=>exact (Kd.R_reads' HO_258002.out).2.1);(case side5=>exact qz82);(case side6=>exact (Kd.R_reads' HO_258003.out).2.1);rintro e w63 ⟨rfl,hb⟩;have n0_:=Aside0.mk (Kd.R_below qz121 hb);have n1_:=Aside0.mk (Kd.R_below qz120 hb);have n2_:=Aside0.mk (Kd.R_below qz99 hb);have n3_:=Aside0.mk (blk_below (g:=gb253) (o:=.cells #[.int .i64 x254000_2,.slice none 0 0,.slice none 0 0,.slice none 0 0] 24 (0,0)) qz52 hb);have n4_:=Aside0.mk (blk_below (g:=gb257) (o:=.cells #[.int .i64 x258000_2,.slice Ao43 t266.length co43,.slice Ao59 x258002_39.length co59,.slice Ao60 x258003_2.length co60] 24 (0,0)) qz76 hb);have n5_:=Aside0.mk (below_step qz7 hb);clear HO_258001 HO_258002 HO_258003 BK253 BK257 HB;have HO_258001:=n0_;have HO_258002:=n1_;have HO_258003:=n2_;have BK253:=n3_;have BK257:=n4_;have HB:=n5_;clear n0_ n1_ n2_ n3_ n4_ n5_;(try clear hb);(try clear hb2);(try clear hk);(try clear hi);have hcz64_0:w63.cell? ⟨gb257,0,none⟩=some (.int .i64 x258000_2):=(blk_cell BK257.out 0).trans rfl;have hcz64_1:w63.cell? ⟨gb257,1,none⟩=some (.slice Ao43 t266.length co43):=(blk_cell BK257.out 1).trans rfl;have hcz64_2:w63.cell? ⟨gb257,2,none⟩=some (.slice Ao59 x258002_39.length co59):=(blk_cell BK257.out 2).trans rfl;have hcz64_3:w63.cell? ⟨gb257,3,none⟩=some (.slice Ao60 x258003_2.length co60):=(blk_cell BK257.out 3).trans rfl;have hfz64_0:=blk_frozen BK257.out 0;have hfz64_1:=blk_frozen BK257.out 1;have hfz64_2:=blk_frozen BK257.out 2;have hfz64_3:=blk_frozen BK257.out 3;have hcz65_0:w63.cell? ⟨gb253,0,none⟩=some (.int .i64 x254000_2):=(blk_cell BK253.out 0).trans rfl;have hcz65_1:w63.cell? ⟨gb253,1,none⟩=some (.slice none 0 0):=(blk_cell BK253.out 1).trans rfl;have hcz65_2:w63.cell? ⟨gb253,2,none⟩=some (.slice none 0 0):=(blk_cell BK253.out 2).trans rfl;have hcz65_3:w63.cell? ⟨gb253,3,none⟩=some (.slice none 0 0):=(blk_cell BK253.out 3).trans rfl;have hfz65_0:=blk_frozen BK253.out 0;have hfz65_1:=blk_frozen BK253.out 1;have hfz65_2:=blk_frozen BK253.out 2;have hfz65_3:=blk_frozen BK253.out 3))
        refine bodyPost_ret (results_ct rfl _ _ gb253 24 #[.int .i64 x258000_2,.slice Ao43 t266.length co43,.slice Ao59 x258002_39.length co59,.slice Ao60 x258003_2.length co60] (0,0) _ rfl (by (with_reducible repeat (first|refine blk_drewN ?_ _|refine blk_drew ?_|refine blk_alloc ?_ _));refine blk_put (cs:=#[.int .i64 x258000_2,.slice Ao43 t266.length co43,.slice Ao59 x258002_39.length co59,.slice none 0 0]) ?_ 3 _ rfl;(with_reducible repeat (first|refine blk_drewN ?_ _|refine blk_drew ?_|refine blk_alloc ?_ _));refine blk_put (cs:=#[.int .i64 x258000_2,.slice Ao43 t266.length co43,.slice none 0 0,.slice none 0 0]) ?_ 2 _ rfl;(with_reducible repeat (first|refine blk_drewN ?_ _|refine blk_drew ?_|refine blk_alloc ?_ _));refine blk_put (cs:=#[.int .i64 x258000_2,.slice none 0 0,.slice none 0 0,.slice none 0 0]) ?_ 1 _ rfl;(with_reducible repeat (first|refine blk_drewN ?_ _|refine blk_drew ?_|refine blk_alloc ?_ _));refine blk_put (cs:=#[.int .i64 x254000_2,.slice none 0 0,.slice none 0 0,.slice none 0 0]) ?_ 0 _ rfl;(with_reducible repeat (first|refine blk_drewN ?_ _|refine blk_drew ?_|refine blk_alloc ?_ _));exact BK253.out) Tryz.underlying24 rfl (by kernel_rfl)) rfl ?_
        exact ⟨_,_,_,qz4,by (with_reducible repeat (first|apply Kd.R_alloc|apply Kd.R_drewN|apply Kd.R_drew));exact Kd.R_mono (Kd.R_far (p:=⟨gb253,3,none⟩) (Kd.R_far (p:=⟨gb253,2,none⟩) (Kd.R_far (p:=⟨gb253,1,none⟩) (Kd.R_far (p:=⟨gb253,0,none⟩) (Kd.R_types HO_258001.out BK253.out (by decide)) (fun _ hk=>hk.2) (.int .i64 x258000_2)) (fun _ hk=>hk.2) (.slice Ao43 t266.length co43)) (fun _ hk=>hk.2) (.slice Ao59 x258002_39.length co59)) (fun _ hk=>hk.2) (.slice Ao60 x258003_2.length co60)) (fun _ hk=>⟨hk.1.1,hk.1.2⟩),by (with_reducible repeat (first|apply Kd.R_alloc|apply Kd.R_drewN|apply Kd.R_drew));exact Kd.R_mono (Kd.R_far (p:=⟨gb253,3,none⟩) (Kd.R_far (p:=⟨gb253,2,none⟩) (Kd.R_far (p:=⟨gb253,1,none⟩) (Kd.R_far (p:=⟨gb253,0,none⟩) (Kd.R_types HO_258002.out BK253.out (by decide)) (fun _ hk=>hk.2) (.int .i64 x258000_2)) (fun _ hk=>hk.2) (.slice Ao43 t266.length co43)) (fun _ hk=>hk.2) (.slice Ao59 x258002_39.length co59)) (fun _ hk=>hk.2) (.slice Ao60 x258003_2.length co60)) (fun _ hk=>⟨hk.1.1,hk.1.2⟩),by (with_reducible repeat (first|apply Kd.R_alloc|apply Kd.R_drewN|apply Kd.R_drew));exact Kd.R_mono (Kd.R_far (p:=⟨gb253,3,none⟩) (Kd.R_far (p:=⟨gb253,2,none⟩) (Kd.R_far (p:=⟨gb253,1,none⟩) (Kd.R_far (p:=⟨gb253,0,none⟩) (Kd.R_types HO_258003.out BK253.out (by decide)) (fun _ hk=>hk.2) (.int .i64 x258000_2)) (fun _ hk=>hk.2) (.slice Ao43 t266.length co43)) (fun _ hk=>hk.2) (.slice Ao59 x258002_39.length co59)) (fun _ hk=>hk.2) (.slice Ao60 x258003_2.length co60)) (fun _ hk=>⟨hk.1.1,hk.1.2⟩),qz7⟩
       ·rw [if_neg c56] at H
        have c56b0:(t276.toList == a0.toList)=false:=beq_eq_false_iff_ne.mpr c56
        have c56b1:(t276.toList != a0.toList)=true:=bne_iff_ne.mpr c56
        simp only [Option.some.injEq,Prod.mk.injEq] at H
        obtain ⟨rfl,rfl,rfl,rfl,rfl⟩:=H
        have hnb66:=NB257_253.out
        have hnc66:=NB253_257.out
        have hcz67_0:wc.cell? ⟨gb257,0,none⟩=some (.int .i64 x258000_2):=(blk_cell BK257.out 0).trans rfl
        have hcz67_1:wc.cell? ⟨gb257,1,none⟩=some (.slice Ao43 t266.length co43):=(blk_cell BK257.out 1).trans rfl
        have hcz67_2:wc.cell? ⟨gb257,2,none⟩=some (u258002):=(blk_cell BK257.out 2).trans rfl
        have hcz67_3:wc.cell? ⟨gb257,3,none⟩=some (u258003):=(blk_cell BK257.out 3).trans rfl
        have hfz67_0:=blk_frozen BK257.out 0
        have hfz67_1:=blk_frozen BK257.out 1
        have hfz67_2:=blk_frozen BK257.out 2
        have hfz67_3:=blk_frozen BK257.out 3
        obtain ⟨Ao68,co68,eo68⟩:=Kd.R_slice HO_258002.out
        subst eo68
        obtain ⟨Ao69,co69,eo69⟩:=Kd.R_slice HO_258003.out
        subst eo69
        go_wp2_with (first|((with_reducible refine gate_callee (f:=16) rfl ?_);refine goesL_ (some 68) rfl rfl Tryz.func16 (by kernel_rfl) rfl #[.agg #[.int .i64 x258000_2,.slice Ao43 t266.length co43,.slice Ao68 x258002_39.length co68,.slice Ao69 x258003_2.length co69]] rfl qz2 ?_;(with_reducible refine (impl_GoalOk.calls x258000_2 _ _ t266 _ _ x258002_39 _ _ x258003_2 true _ ?side1 ?side2 ?side3 ?side4 ?side5 ?side6 A53.out).mono ?_);(case side1=>exact qz84);(case side2=>exact (Kd.R_reads' HO_258001.out).2.1);(case side3=>exact qz83);(case side4=>exact (Kd.R_reads' HO_258002.out).2.1);(case side5=>exact qz82);(case side6=>exact (Kd.R_reads' HO_258003.out).2.1);rintro e w70 ⟨rfl,hb⟩;refine ⟨_,rfl,?_⟩;have n0_:=Aside0.mk (Kd.R_below qz121 hb);have n1_:=Aside0.mk (Kd.R_below qz120 hb);have n2_:=Aside0.mk (Kd.R_below qz99 hb);have n3_:=Aside0.mk (blk_below (g:=gb253) (o:=.cells #[.int .i64 x254000_2,.slice none 0 0,.slice none 0 0,.slice none 0 0] 24 (0,0)) qz52 hb);have n4_:=Aside0.mk (blk_below (g:=gb257) (o:=.cells #[.int .i64 x258000_2,.slice Ao43 t266.length co43,.slice Ao68 x258002_39.length co68,.slice Ao69 x258003_2.length co69] 24 (0,0)) qz76 hb);have n5_:=Aside0.mk (below_step qz7 hb);clear HO_258001 HO_258002 HO_258003 BK253 BK257 HB;have HO_258001:=n0_;have HO_258002:=n1_;have HO_258003:=n2_;have BK253:=n3_;have BK257:=n4_;have HB:=n5_;clear n0_ n1_ n2_ n3_ n4_ n5_;(try clear hb);(try clear hb2);(try clear hk);(try clear hi);have hcz71_0:w70.cell? ⟨gb257,0,none⟩=some (.int .i64 x258000_2):=(blk_cell BK257.out 0).trans rfl;have hcz71_1:w70.cell? ⟨gb257,1,none⟩=some (.slice Ao43 t266.length co43):=(blk_cell BK257.out 1).trans rfl;have hcz71_2:w70.cell? ⟨gb257,2,none⟩=some (.slice Ao68 x258002_39.length co68):=(blk_cell BK257.out 2).trans rfl;have hcz71_3:w70.cell? ⟨gb257,3,none⟩=some (.slice Ao69 x258003_2.length co69):=(blk_cell BK257.out 3).trans rfl;have hfz71_0:=blk_frozen BK257.out 0;have hfz71_1:=blk_frozen BK257.out 1;have hfz71_2:=blk_frozen BK257.out 2;have hfz71_3:=blk_frozen BK257.out 3)|(go_at_call 13;(with_reducible refine (impl_GoalText.calls (hT_:=HQT_.out.below qz7) kj39 x258000_2 _ _ t266 _ _ x258002_39 _ _ x258003_2 t276 _ ?side1 ?side2 ?side3 ?side4 ?side5 ?side6 A55.out).mono ?_);(case side1=>exact qz84);(case side2=>exact (Kd.R_reads' HO_258001.out).2.1);(case side3=>exact qz83);(case side4=>exact (Kd.R_reads' HO_258002.out).2.1);(case side5=>exact qz82);(case side6=>exact (Kd.R_reads' HO_258003.out).2.1);rintro e w72 ⟨rfl,hb⟩;have n0_:=Aside0.mk (Kd.R_below qz121 hb);have n1_:=Aside0.mk (Kd.R_below qz120 hb);have n2_:=Aside0.mk (Kd.R_below qz99 hb);have n3_:=Aside0.mk (blk_below (g:=gb253) (o:=.cells #[.int .i64 x254000_2,.slice none 0 0,.slice none 0 0,.slice none 0 0] 24 (0,0)) qz52 hb);have n4_:=Aside0.mk (blk_below (g:=gb257) (o:=.cells #[.int .i64 x258000_2,.slice Ao43 t266.length co43,.slice Ao68 x258002_39.length co68,.slice Ao69 x258003_2.length co69] 24 (0,0)) qz76 hb);have n5_:=Aside0.mk (below_step qz7 hb);clear HO_258001 HO_258002 HO_258003 BK253 BK257 HB;have HO_258001:=n0_;have HO_258002:=n1_;have HO_258003:=n2_;have BK253:=n3_;have BK257:=n4_;have HB:=n5_;clear n0_ n1_ n2_ n3_ n4_ n5_;(try clear hb);(try clear hb2);(try clear hk);(try clear hi);have hcz73_0:w72.cell? ⟨gb253,0,none⟩=some (.int .i64 x254000_2):=(blk_cell BK253.out 0).trans rfl;have hcz73_1:w72.cell? ⟨gb253,1,none⟩=some (.slice none 0 0):=(blk_cell BK253.out 1).trans rfl;have hcz73_2:w72.cell? ⟨gb253,2,none⟩=some (.slice none 0 0):=(blk_cell BK253.out 2).trans rfl;have hcz73_3:w72.cell? ⟨gb253,3,none⟩=some (.slice none 0 0):=(blk_cell BK253.out 3).trans rfl;have hfz73_0:=blk_frozen BK253.out 0;have hfz73_1:=blk_frozen BK253.out 1;have hfz73_2:=blk_frozen BK253.out 2;have hfz73_3:=blk_frozen BK253.out 3))
        refine bodyPost_ret (results_ct rfl _ _ gb253 24 #[.int .i64 0,.slice none 0 0,.slice none 0 0,.slice none 0 0] (0,0) _ rfl qz72 Tryz.underlying24 rfl (by kernel_rfl)) rfl ?_
        exact ⟨_,_,_,qz4,qz35,qz35,qz35,qz7⟩
      ·replace c54:=Bool.eq_false_iff.mpr c54
       subst c54
       have H1:(some (0,([]:List (S63)),([]:List (S63)),([]:List (S63)),false))=some (r1,r2,r3,r4,r5):=qz23
       clear H
       have H:=H1
       clear H1
       simp only [Option.some.injEq,Prod.mk.injEq] at H
       obtain ⟨rfl,rfl,rfl,rfl,rfl⟩:=H
       have hnb74:=NB257_253.out
       have hnc74:=NB253_257.out
       have hcz75_0:wc.cell? ⟨gb257,0,none⟩=some (.int .i64 x258000_2):=(blk_cell BK257.out 0).trans rfl
       have hcz75_1:wc.cell? ⟨gb257,1,none⟩=some (.slice Ao43 t266.length co43):=(blk_cell BK257.out 1).trans rfl
       have hcz75_2:wc.cell? ⟨gb257,2,none⟩=some (u258002):=(blk_cell BK257.out 2).trans rfl
       have hcz75_3:wc.cell? ⟨gb257,3,none⟩=some (u258003):=(blk_cell BK257.out 3).trans rfl
       have hfz75_0:=blk_frozen BK257.out 0
       have hfz75_1:=blk_frozen BK257.out 1
       have hfz75_2:=blk_frozen BK257.out 2
       have hfz75_3:=blk_frozen BK257.out 3
       obtain ⟨Ao76,co76,eo76⟩:=Kd.R_slice HO_258002.out
       subst eo76
       obtain ⟨Ao77,co77,eo77⟩:=Kd.R_slice HO_258003.out
       subst eo77
       go_wp2_with (first|((with_reducible refine gate_callee (f:=16) rfl ?_);refine goesL_ (some 68) rfl rfl Tryz.func16 (by kernel_rfl) rfl #[.agg #[.int .i64 x258000_2,.slice Ao43 t266.length co43,.slice Ao76 x258002_39.length co76,.slice Ao77 x258003_2.length co77]] rfl qz2 ?_;(with_reducible refine (impl_GoalOk.calls x258000_2 _ _ t266 _ _ x258002_39 _ _ x258003_2 false _ ?side1 ?side2 ?side3 ?side4 ?side5 ?side6 A53.out).mono ?_);(case side1=>exact qz84);(case side2=>exact (Kd.R_reads' HO_258001.out).2.1);(case side3=>exact qz83);(case side4=>exact (Kd.R_reads' HO_258002.out).2.1);(case side5=>exact qz82);(case side6=>exact (Kd.R_reads' HO_258003.out).2.1);rintro e w78 ⟨rfl,hb⟩;refine ⟨_,rfl,?_⟩;have n0_:=Aside0.mk (Kd.R_below qz121 hb);have n1_:=Aside0.mk (Kd.R_below qz120 hb);have n2_:=Aside0.mk (Kd.R_below qz99 hb);have n3_:=Aside0.mk (blk_below (g:=gb253) (o:=.cells #[.int .i64 x254000_2,.slice none 0 0,.slice none 0 0,.slice none 0 0] 24 (0,0)) qz52 hb);have n4_:=Aside0.mk (blk_below (g:=gb257) (o:=.cells #[.int .i64 x258000_2,.slice Ao43 t266.length co43,.slice Ao76 x258002_39.length co76,.slice Ao77 x258003_2.length co77] 24 (0,0)) qz76 hb);have n5_:=Aside0.mk (below_step qz7 hb);clear HO_258001 HO_258002 HO_258003 BK253 BK257 HB;have HO_258001:=n0_;have HO_258002:=n1_;have HO_258003:=n2_;have BK253:=n3_;have BK257:=n4_;have HB:=n5_;clear n0_ n1_ n2_ n3_ n4_ n5_;(try clear hb);(try clear hb2);(try clear hk);(try clear hi);have hcz79_0:w78.cell? ⟨gb253,0,none⟩=some (.int .i64 x254000_2):=(blk_cell BK253.out 0).trans rfl;have hcz79_1:w78.cell? ⟨gb253,1,none⟩=some (.slice none 0 0):=(blk_cell BK253.out 1).trans rfl;have hcz79_2:w78.cell? ⟨gb253,2,none⟩=some (.slice none 0 0):=(blk_cell BK253.out 2).trans rfl;have hcz79_3:w78.cell? ⟨gb253,3,none⟩=some (.slice none 0 0):=(blk_cell BK253.out 3).trans rfl;have hfz79_0:=blk_frozen BK253.out 0;have hfz79_1:=blk_frozen BK253.out 1;have hfz79_2:=blk_frozen BK253.out 2;have hfz79_3:=blk_frozen BK253.out 3))
       refine bodyPost_ret (results_ct rfl _ _ gb253 24 #[.int .i64 0,.slice none 0 0,.slice none 0 0,.slice none 0 0] (0,0) _ rfl qz72 Tryz.underlying24 rfl (by kernel_rfl)) rfl ?_
       exact ⟨_,_,_,qz4,qz35,qz35,qz35,qz7⟩
   ·rw [if_neg c38] at H
    exact absurd H (by simp)

end Go.Proofs.YtlhniagacegbeaaGreatDoor.P
