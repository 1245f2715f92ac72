/- Contracts of functions of the program: each as a Lean function, and that its call does what that says; printed by cprint.py (this session) over print.py of the kit. Conditions: the hypotheses of each theorem. -/
import Derived.Test.YtlhniagacegbeaaGreatDoorVZ
import Derived.Test.YtlhniagacegbeaaGreatDoorP0
import Derived.Test.YtlhniagacegbeaaGreatDoorP8
import Derived.Test.YtlhniagacegbeaaGreatDoorP11
import Derived.Test.YtlhniagacegbeaaGreatDoorP13
import Derived.Test.YtlhniagacegbeaaGreatDoorP14
import Derived.Test.YtlhniagacegbeaaGreatDoorP15
import Derived.Test.YtlhniagacegbeaaGreatDoorP16
namespace Go.Proofs.YtlhniagacegbeaaGreatDoor.P
open Go.RowKit Go.Proofs.YtlhniagacegbeaaGreatDoorW.PrintWords Go.Proofs.YtlhniagacegbeaaGreatDoorW.PrintLast Go.Proofs.YtlhniagacegbeaaGreatDoorW.PrintMore
attribute [local go_sem] max2_int min2_int max_two min_two max_three min_three max_four min_four   -- for this text's walks alone
set_option linter.unusedVariables false
set_option linter.unusedSimpArgs false

/-! ### laws_FnExactGoalRead: function 3 -/
mutual
def laws_FnExactGoalRead.j0:Nat→ByteArray→Bool→Bool→Int→List (S63)→List (S63)→List (S63)→Int→List (S63)→List (S63)→List (S63)→Option (Bool)
 | 0,_,_,_,_,_,_,_,_,_,_,_=>none
 | k+1,x0,x4,x32,x321000,x321001,x321002,x321003,x333000,x333001,x333002,x333003=>if x32=true then (some false) else ((laws_markPrgGoal.f k x333000 x333001 x333002 x333003 1).bind fun bt334=>((laws_heldPrgGoal.f k x333000 bt334.2.1 bt334.2.2.1 bt334.2.2.2 1).bind fun t338=>(if t338<0 then (some false) else (if t338=bt334.1 then ((impl_GoalRead.f k x0).bind fun bt339=>((laws_eqPrgGoal.f k bt339.1 bt339.2.1 bt339.2.2.1 bt339.2.2.2.1 x321000 x321001 x321002 x321003).bind fun t351=>(if t351=true then (laws_FnExactGoalRead.j1 k bt334.1 (bt339.2.2.2.2 != x4) x333000 bt334.2.1 bt334.2.2.1 bt334.2.2.2) else (laws_FnExactGoalRead.j1 k bt334.1 true x333000 bt334.2.1 bt334.2.2.1 bt334.2.2.2)))) else (some false)))))
def laws_FnExactGoalRead.j1:Nat→Int→Bool→Int→List (S63)→List (S63)→List (S63)→Option (Bool)
 | 0,_,_,_,_,_,_=>none
 | k+1,x7,x57,x333000,x333001,x333002,x333003=>if x57=true then (some false) else ((laws_heldPrgGoal.f k x333000 x333001 x333002 x333003 1).bind fun t352=>(if t352<0 then (some false) else (if t352=x7 then (some true) else (some false))))
end
def laws_FnExactGoalRead.f (k:Nat) (a0:ByteArray):Option (Bool):=if (a0.size:Int) > 1048576 then (some true) else ((spec_GoalRead.f k a0).bind fun bt309=>((impl_GoalRead.f k a0).bind fun bt321=>((laws_eqPrgGoal.f k bt321.1 bt321.2.1 bt321.2.2.1 bt321.2.2.2.1 bt309.1 bt309.2.1 bt309.2.2.1 bt309.2.2.2.1).bind fun t333=>(if t333=true then (laws_FnExactGoalRead.j0 k a0 bt309.2.2.2.2 (bt321.2.2.2.2 != bt309.2.2.2.2) bt309.1 bt309.2.1 bt309.2.2.1 bt309.2.2.2.1 bt321.1 bt321.2.1 bt321.2.2.1 bt321.2.2.2.1) else (laws_FnExactGoalRead.j0 k a0 bt309.2.2.2.2 true bt309.1 bt309.2.1 bt309.2.2.1 bt309.2.2.2.1 bt321.1 bt321.2.1 bt321.2.2.1 bt321.2.2.2.1)))))
set_option maxHeartbeats 8000000 in
set_option maxRecDepth 100000 in
theorem laws_FnExactGoalRead.calls (k:Nat) (a0:ByteArray) (r:Bool) (w:World) (hM_:MaxT w) (hE_:ErrT w) (hT_:TabT w) (h:laws_FnExactGoalRead.f k a0=some r) :
  Calls Tryz.prog 3 #[.string a0] w fun e w'=>e = .returned (.bool r)∧Below w.heap.size w w':=by
 have HQM_:=Aside0.mk hM_
 clear hM_
 have HQE_:=Aside0.mk hE_
 clear hE_
 have HQT_:=Aside0.mk hT_
 clear hT_
 have hu24:=Tryz.underlying24
 have HB:=Aside0.mk (Below.refl w.heap.size w)
 have H:(if (a0.size:Int) > 1048576 then (some true) else ((spec_GoalRead.f k a0).bind fun bt309=>((impl_GoalRead.f k a0).bind fun bt321=>((laws_eqPrgGoal.f k bt321.1 bt321.2.1 bt321.2.2.1 bt321.2.2.2.1 bt309.1 bt309.2.1 bt309.2.2.1 bt309.2.2.2.1).bind fun t333=>(if t333=true then (laws_FnExactGoalRead.j0 k a0 bt309.2.2.2.2 (bt321.2.2.2.2 != bt309.2.2.2.2) bt309.1 bt309.2.1 bt309.2.2.1 bt309.2.2.2.1 bt321.1 bt321.2.1 bt321.2.2.1 bt321.2.2.2.1) else (laws_FnExactGoalRead.j0 k a0 bt309.2.2.2.2 true bt309.1 bt309.2.1 bt309.2.2.1 bt309.2.2.2.1 bt321.1 bt321.2.1 bt321.2.2.1 bt321.2.2.2.1))))))=some r:=h
 clear h
 by_cases c2:(a0.size:Int) > 1048576
 ·rw [if_pos c2] at H
  have c2b0:decide (1048576<(a0.size:Int))=true:=decide_eq_true c2
  have c2b1:decide (1048576<a0.size)=true:=decide_eq_true (by omega)
  clear c2
  obtain rfl:=Option.some.inj H
  go_enter Tryz.func3,Tryz.ntmps3
  go_wp2
  go_ret
  exact ⟨qz4,qz3⟩
 ·rw [if_neg c2] at H
  have c2b0:decide (1048576<(a0.size:Int))=false:=decide_eq_false c2
  have c2b1:decide (1048576<a0.size)=false:=decide_eq_false (by omega)
  clear c2
  replace H:=Option.bind_eq_some_iff.mp H
  obtain ⟨⟨t309,t310,t313,t316,t319⟩,A30,H⟩:=H
  try dsimp only at H
  have A3:=Aside0.mk A30
  clear A30
  replace H:=Option.bind_eq_some_iff.mp H
  obtain ⟨⟨t321,t322,t325,t328,t331⟩,A40,H⟩:=H
  try dsimp only at H
  have A4:=Aside0.mk A40
  clear A40
  have HC5:=Aside0.mk H
  clear H
  go_enter Tryz.func3,Tryz.ntmps3
  go_upto_region 5 with (first|((with_reducible refine gate_callee (f:=6) rfl ?_);refine goesL_ (some 16) rfl rfl Tryz.func6 (by kernel_rfl) rfl #[.string a0] rfl qz2 ?_;(with_reducible refine (spec_GoalRead.calls k a0 t309 t310 t313 t316 t319 _ A3.out).mono ?_);rintro e w6 ⟨v311,v314,v317,rfl,ho0,ho1,ho2,hb⟩;refine ⟨_,rfl,?_⟩;have n0_:=Aside0.mk (Kd.R_lower ho0 (below_size qz1));have n1_:=Aside0.mk (Kd.R_lower ho1 (below_size qz1));have n2_:=Aside0.mk (Kd.R_lower ho2 (below_size qz1));have n3_:=Aside0.mk (below_step qz1 hb);clear HB;have HO312:=n0_;have HO315:=n1_;have HO318:=n2_;have HB:=n3_;clear n0_ n1_ n2_ n3_;(try clear hb);(try clear hb2);(try clear hk);(try clear hi);(try clear ho0);(try clear ho1);(try clear ho2))|((with_reducible refine gate_dst (N:=3) rfl ?_);refine box_event ?hg (N:=3) ?hd (cs:=#[.int .i64 0,.slice none 0 0,.slice none 0 0,.slice none 0 0]) (t:=24) ?hr ?_;(case hd=>rfl);(case hg=>rfl);(case hr=>first|(go_simp;done)|(go_simp;rfl));intro gb320 hg w7 hbox hb;have n0_:=Aside0.mk (Kd.R_below (by (with_reducible repeat (first|apply Kd.R_alloc|apply Kd.R_drewN|apply Kd.R_drew));exact HO312.out) hb);have n1_:=Aside0.mk (Kd.R_below (by (with_reducible repeat (first|apply Kd.R_alloc|apply Kd.R_drewN|apply Kd.R_drew));exact HO315.out) hb);have n2_:=Aside0.mk (Kd.R_below (by (with_reducible repeat (first|apply Kd.R_alloc|apply Kd.R_drewN|apply Kd.R_drew));exact HO318.out) hb);have n3_:=Aside0.mk (below_step qz1 hb);have n4_:=Aside0.mk (hbox);have n5_:=Aside0.mk ((by rw [hg];exact (below_size qz1):w.heap.size≤gb320));have n6_:=Aside0.mk ((by rw [hg];exact (below_size qz1):w.heap.size≤gb320));clear HO312 HO315 HO318 HB;have HO312:=n0_;have HO315:=n1_;have HO318:=n2_;have HB:=n3_;have BK320:=n4_;have GW320:=n5_;have GE320:=n6_;clear n0_ n1_ n2_ n3_ n4_ n5_ n6_ hb hbox hg;have hcz8_0:w7.cell? ⟨gb320,0,none⟩=some (.int .i64 0):=(blk_cell BK320.out 0).trans rfl;have hcz8_1:w7.cell? ⟨gb320,1,none⟩=some (.slice none 0 0):=(blk_cell BK320.out 1).trans rfl;have hcz8_2:w7.cell? ⟨gb320,2,none⟩=some (.slice none 0 0):=(blk_cell BK320.out 2).trans rfl;have hcz8_3:w7.cell? ⟨gb320,3,none⟩=some (.slice none 0 0):=(blk_cell BK320.out 3).trans rfl;have hfz8_0:=blk_frozen BK320.out 0;have hfz8_1:=blk_frozen BK320.out 1;have hfz8_2:=blk_frozen BK320.out 2;have hfz8_3:=blk_frozen BK320.out 3;obtain ⟨Ao9,co9,eo9⟩:=Kd.R_slice HO312.out;subst eo9;obtain ⟨Ao10,co10,eo10⟩:=Kd.R_slice HO315.out;subst eo10;obtain ⟨Ao11,co11,eo11⟩:=Kd.R_slice HO318.out;subst eo11)|((with_reducible refine gate_callee (f:=7) rfl ?_);refine goesL_ (some 21) rfl rfl Tryz.func7 (by kernel_rfl) rfl #[.string a0] rfl qz2 ?_;(with_reducible refine (impl_GoalRead.calls (hM_:=HQM_.out.below qz15) (hE_:=HQE_.out.below qz15) (hT_:=HQT_.out.below qz15) k a0 t321 t322 t325 t328 t331 _ A4.out).mono ?_);rintro e w12 ⟨v323,v326,v329,rfl,ho0,ho1,ho2,hb⟩;refine ⟨_,rfl,?_⟩;have n0_:=Aside0.mk (Kd.R_mono (Kd.R_told (Kd.R_told (Kd.R_told (Kd.R_old qz50 hb) (Kd.R_base ho0)) (Kd.R_base ho1)) (Kd.R_base ho2)) (fun _ h_=>h_.1));have n1_:=Aside0.mk (Kd.R_mono (Kd.R_told (Kd.R_told (Kd.R_told (Kd.R_old qz49 hb) (Kd.R_base ho0)) (Kd.R_base ho1)) (Kd.R_base ho2)) (fun _ h_=>h_.1));have n2_:=Aside0.mk (Kd.R_mono (Kd.R_told (Kd.R_told (Kd.R_told (Kd.R_old qz48 hb) (Kd.R_base ho0)) (Kd.R_base ho1)) (Kd.R_base ho2)) (fun _ h_=>h_.1));have n3_:=Aside0.mk (Kd.R_lower (Kd.R_new' (Kd.R_new' (Kd.R_new' ho0 (Kd.R_lt qz50)) (Kd.R_lt qz49)) (Kd.R_lt qz48)) (below_size qz68));have n4_:=Aside0.mk (Kd.R_lower (Kd.R_new' (Kd.R_new' (Kd.R_new' ho1 (Kd.R_lt qz50)) (Kd.R_lt qz49)) (Kd.R_lt qz48)) (below_size qz68));have n5_:=Aside0.mk (Kd.R_lower (Kd.R_new' (Kd.R_new' (Kd.R_new' ho2 (Kd.R_lt qz50)) (Kd.R_lt qz49)) (Kd.R_lt qz48)) (below_size qz68));have n6_:=Aside0.mk (blk_below (g:=gb320) (o:=.cells #[.int .i64 t309,.slice Ao9 t310.length co9,.slice Ao10 t313.length co10,.slice Ao11 t316.length co11] 24 (0,0)) (by (with_reducible repeat (first|refine blk_drewN ?_ _|refine blk_drew ?_|refine blk_alloc ?_ _));refine blk_put (cs:=#[.int .i64 t309,.slice Ao9 t310.length co9,.slice Ao10 t313.length co10,.slice none 0 0]) ?_ 3 _ rfl;(with_reducible repeat (first|refine blk_drewN ?_ _|refine blk_drew ?_|refine blk_alloc ?_ _));refine blk_put (cs:=#[.int .i64 t309,.slice Ao9 t310.length co9,.slice none 0 0,.slice none 0 0]) ?_ 2 _ rfl;(with_reducible repeat (first|refine blk_drewN ?_ _|refine blk_drew ?_|refine blk_alloc ?_ _));refine blk_put (cs:=#[.int .i64 t309,.slice none 0 0,.slice none 0 0,.slice none 0 0]) ?_ 1 _ rfl;(with_reducible repeat (first|refine blk_drewN ?_ _|refine blk_drew ?_|refine blk_alloc ?_ _));refine blk_put (cs:=#[.int .i64 0,.slice none 0 0,.slice none 0 0,.slice none 0 0]) ?_ 0 _ rfl;(with_reducible repeat (first|refine blk_drewN ?_ _|refine blk_drew ?_|refine blk_alloc ?_ _));exact BK320.out) hb);have n7_:=Aside0.mk (below_step qz68 hb);clear HO312 HO315 HO318 BK320 HB;have HO312:=n0_;have HO315:=n1_;have HO318:=n2_;have HO324:=n3_;have HO327:=n4_;have HO330:=n5_;have BK320:=n6_;have HB:=n7_;clear n0_ n1_ n2_ n3_ n4_ n5_ n6_ n7_;(try clear hb);(try clear hb2);(try clear hk);(try clear hi);(try clear ho0);(try clear ho1);(try clear ho2))|((with_reducible refine gate_dst (N:=5) rfl ?_);refine box_event ?hg (N:=5) ?hd (cs:=#[.int .i64 0,.slice none 0 0,.slice none 0 0,.slice none 0 0]) (t:=24) ?hr ?_;(case hd=>rfl);(case hg=>rfl);(case hr=>first|(go_simp;done)|(go_simp;rfl));intro gb332 hg w13 hbox hb;have n0_:=Aside0.mk (Kd.R_below (by (with_reducible repeat (first|apply Kd.R_alloc|apply Kd.R_drewN|apply Kd.R_drew));exact HO312.out) hb);have n1_:=Aside0.mk (Kd.R_below (by (with_reducible repeat (first|apply Kd.R_alloc|apply Kd.R_drewN|apply Kd.R_drew));exact HO315.out) hb);have n2_:=Aside0.mk (Kd.R_below (by (with_reducible repeat (first|apply Kd.R_alloc|apply Kd.R_drewN|apply Kd.R_drew));exact HO318.out) hb);have n3_:=Aside0.mk (Kd.R_below (by (with_reducible repeat (first|apply Kd.R_alloc|apply Kd.R_drewN|apply Kd.R_drew));exact HO324.out) hb);have n4_:=Aside0.mk (Kd.R_below (by (with_reducible repeat (first|apply Kd.R_alloc|apply Kd.R_drewN|apply Kd.R_drew));exact HO327.out) hb);have n5_:=Aside0.mk (Kd.R_below (by (with_reducible repeat (first|apply Kd.R_alloc|apply Kd.R_drewN|apply Kd.R_drew));exact HO330.out) hb);have n6_:=Aside0.mk (blk_below (g:=gb320) (o:=.cells #[.int .i64 t309,.slice Ao9 t310.length co9,.slice Ao10 t313.length co10,.slice Ao11 t316.length co11] 24 (0,0)) qz26 hb);have n7_:=Aside0.mk (below_step qz68 hb);have n8_:=Aside0.mk (hbox);have n9_:=Aside0.mk ((by rw [hg];exact (below_size qz68):w.heap.size≤gb332));have n10_:=Aside0.mk ((by rw [hg];exact (below_size qz68):w.heap.size≤gb332));have n11_:=Aside0.mk ((by rw [hg];exact Nat.ne_of_lt (blk_lt (g:=gb320) (o:=.cells #[.int .i64 t309,.slice Ao9 t310.length co9,.slice Ao10 t313.length co10,.slice Ao11 t316.length co11] 24 (0,0)) qz26):gb320≠gb332));have n12_:=Aside0.mk ((by rw [hg];exact Nat.ne_of_gt (blk_lt (g:=gb320) (o:=.cells #[.int .i64 t309,.slice Ao9 t310.length co9,.slice Ao10 t313.length co10,.slice Ao11 t316.length co11] 24 (0,0)) qz26):gb332≠gb320));clear HO312 HO315 HO318 HO324 HO327 HO330 BK320 HB;have HO312:=n0_;have HO315:=n1_;have HO318:=n2_;have HO324:=n3_;have HO327:=n4_;have HO330:=n5_;have BK320:=n6_;have HB:=n7_;have BK332:=n8_;have GW332:=n9_;have GE332:=n10_;have NB320_332:=n11_;have NB332_320:=n12_;clear n0_ n1_ n2_ n3_ n4_ n5_ n6_ n7_ n8_ n9_ n10_ n11_ n12_ hb hbox hg;have hnb14:=NB332_320.out;have hnc14:=NB320_332.out;have hcz15_0:w13.cell? ⟨gb332,0,none⟩=some (.int .i64 0):=(blk_cell BK332.out 0).trans rfl;have hcz15_1:w13.cell? ⟨gb332,1,none⟩=some (.slice none 0 0):=(blk_cell BK332.out 1).trans rfl;have hcz15_2:w13.cell? ⟨gb332,2,none⟩=some (.slice none 0 0):=(blk_cell BK332.out 2).trans rfl;have hcz15_3:w13.cell? ⟨gb332,3,none⟩=some (.slice none 0 0):=(blk_cell BK332.out 3).trans rfl;have hfz15_0:=blk_frozen BK332.out 0;have hfz15_1:=blk_frozen BK332.out 1;have hfz15_2:=blk_frozen BK332.out 2;have hfz15_3:=blk_frozen BK332.out 3;obtain ⟨Ao16,co16,eo16⟩:=Kd.R_slice HO324.out;subst eo16;obtain ⟨Ao17,co17,eo17⟩:=Kd.R_slice HO327.out;subst eo17;obtain ⟨Ao18,co18,eo18⟩:=Kd.R_slice HO330.out;subst eo18))
  (try simp only [Act.put,List.setIfInBounds_toArray,List.set_cons_zero,List.set_cons_succ])
  go_cut [32] (fun v32 wc=>∃ (kq:Nat) (x32_4:Bool),v32 = .bool x32_4∧Aside0 (laws_FnExactGoalRead.j0 kq a0 t319 x32_4 t309 t310 t313 t316 t321 t322 t325 t328=some r)∧Aside0 (kq≤k)∧Aside0 (Kd.R k63 63 wc w.heap.size (fun k_=>some k_≠((.slice Ao10 t313.length co10):Value).ownBlock∧some k_≠((.slice Ao11 t316.length co11):Value).ownBlock∧some k_≠((.slice Ao16 t322.length co16):Value).ownBlock∧some k_≠((.slice Ao17 t325.length co17):Value).ownBlock∧some k_≠((.slice Ao18 t328.length co18):Value).ownBlock) (.slice Ao9 t310.length co9) t310)∧Aside0 (Kd.R k63 63 wc w.heap.size (fun k_=>some k_≠((.slice Ao9 t310.length co9):Value).ownBlock∧some k_≠((.slice Ao11 t316.length co11):Value).ownBlock∧some k_≠((.slice Ao16 t322.length co16):Value).ownBlock∧some k_≠((.slice Ao17 t325.length co17):Value).ownBlock∧some k_≠((.slice Ao18 t328.length co18):Value).ownBlock) (.slice Ao10 t313.length co10) t313)∧Aside0 (Kd.R k63 63 wc w.heap.size (fun k_=>some k_≠((.slice Ao9 t310.length co9):Value).ownBlock∧some k_≠((.slice Ao10 t313.length co10):Value).ownBlock∧some k_≠((.slice Ao16 t322.length co16):Value).ownBlock∧some k_≠((.slice Ao17 t325.length co17):Value).ownBlock∧some k_≠((.slice Ao18 t328.length co18):Value).ownBlock) (.slice Ao11 t316.length co11) t316)∧Aside0 (Kd.R k63 63 wc w.heap.size (fun k_=>some k_≠((.slice Ao9 t310.length co9):Value).ownBlock∧some k_≠((.slice Ao10 t313.length co10):Value).ownBlock∧some k_≠((.slice Ao11 t316.length co11):Value).ownBlock∧some k_≠((.slice Ao17 t325.length co17):Value).ownBlock∧some k_≠((.slice Ao18 t328.length co18):Value).ownBlock) (.slice Ao16 t322.length co16) t322)∧Aside0 (Kd.R k63 63 wc w.heap.size (fun k_=>some k_≠((.slice Ao9 t310.length co9):Value).ownBlock∧some k_≠((.slice Ao10 t313.length co10):Value).ownBlock∧some k_≠((.slice Ao11 t316.length co11):Value).ownBlock∧some k_≠((.slice Ao16 t322.length co16):Value).ownBlock∧some k_≠((.slice Ao18 t328.length co18):Value).ownBlock) (.slice Ao17 t325.length co17) t325)∧Aside0 (Kd.R k63 63 wc w.heap.size (fun k_=>some k_≠((.slice Ao9 t310.length co9):Value).ownBlock∧some k_≠((.slice Ao10 t313.length co10):Value).ownBlock∧some k_≠((.slice Ao11 t316.length co11):Value).ownBlock∧some k_≠((.slice Ao16 t322.length co16):Value).ownBlock∧some k_≠((.slice Ao17 t325.length co17):Value).ownBlock) (.slice Ao18 t328.length co18) t328)∧Aside0 (wc.heap[gb320]?=some (.cells #[.int .i64 t309,(.slice Ao9 t310.length co9),(.slice Ao10 t313.length co10),(.slice Ao11 t316.length co11)] 24 (0,0)))∧Aside0 (wc.heap[gb332]?=some (.cells #[.int .i64 t321,(.slice Ao16 t322.length co16),(.slice Ao17 t325.length co17),(.slice Ao18 t328.length co18)] 24 (0,0)))∧Aside0 (Below w.heap.size w wc))
  case first=>
   have H:=HC5.out
   clear HC5
   replace H:=Option.bind_eq_some_iff.mp H
   obtain ⟨t333,A190,H⟩:=H
   try dsimp only at H
   have A19:=Aside0.mk A190
   clear A190
   by_cases c20:t333=true
   ·subst c20
    have H1:(laws_FnExactGoalRead.j0 k a0 t319 (t331 != t319) t309 t310 t313 t316 t321 t322 t325 t328)=some r:=qz57
    clear H
    have H:=H1
    clear H1
    have H':=Aside0.mk H
    clear H
    have hnb21:=NB332_320.out
    have hnc21:=NB320_332.out
    have hcz22_0:w13.cell? ⟨gb332,0,none⟩=some (.int .i64 0):=(blk_cell BK332.out 0).trans rfl
    have hcz22_1:w13.cell? ⟨gb332,1,none⟩=some (.slice none 0 0):=(blk_cell BK332.out 1).trans rfl
    have hcz22_2:w13.cell? ⟨gb332,2,none⟩=some (.slice none 0 0):=(blk_cell BK332.out 2).trans rfl
    have hcz22_3:w13.cell? ⟨gb332,3,none⟩=some (.slice none 0 0):=(blk_cell BK332.out 3).trans rfl
    have hfz22_0:=blk_frozen BK332.out 0
    have hfz22_1:=blk_frozen BK332.out 1
    have hfz22_2:=blk_frozen BK332.out 2
    have hfz22_3:=blk_frozen BK332.out 3
    have hcz23_0:w13.cell? ⟨gb320,0,none⟩=some (.int .i64 t309):=(blk_cell BK320.out 0).trans rfl
    have hcz23_1:w13.cell? ⟨gb320,1,none⟩=some (.slice Ao9 t310.length co9):=(blk_cell BK320.out 1).trans rfl
    have hcz23_2:w13.cell? ⟨gb320,2,none⟩=some (.slice Ao10 t313.length co10):=(blk_cell BK320.out 2).trans rfl
    have hcz23_3:w13.cell? ⟨gb320,3,none⟩=some (.slice Ao11 t316.length co11):=(blk_cell BK320.out 3).trans rfl
    have hfz23_0:=blk_frozen BK320.out 0
    have hfz23_1:=blk_frozen BK320.out 1
    have hfz23_2:=blk_frozen BK320.out 2
    have hfz23_3:=blk_frozen BK320.out 3
    go_wp2_with (first|((with_reducible refine gate_callee (f:=8) rfl ?_);refine goesL_ (some 26) rfl rfl Tryz.func8 (by kernel_rfl) rfl #[.agg #[.int .i64 t321,.slice Ao16 t322.length co16,.slice Ao17 t325.length co17,.slice Ao18 t328.length co18],.agg #[.int .i64 t309,.slice Ao9 t310.length co9,.slice Ao10 t313.length co10,.slice Ao11 t316.length co11]] rfl qz2 ?_;(with_reducible refine (laws_eqPrgGoal.calls k t321 _ _ t322 _ _ t325 _ _ t328 t309 _ _ t310 _ _ t313 _ _ t316 true _ ?side1 ?side2 ?side3 ?side4 ?side5 ?side6 ?side7 ?side8 ?side9 ?side10 ?side11 ?side12 A19.out).mono ?_);(case side1=>exact qz117);(case side2=>exact (Kd.R_reads' HO324.out).2.1);(case side3=>exact qz118);(case side4=>exact (Kd.R_reads' HO327.out).2.1);(case side5=>exact qz119);(case side6=>exact (Kd.R_reads' HO330.out).2.1);(case side7=>exact qz114);(case side8=>exact (Kd.R_reads' HO312.out).2.1);(case side9=>exact qz115);(case side10=>exact (Kd.R_reads' HO315.out).2.1);(case side11=>exact qz116);(case side12=>exact (Kd.R_reads' HO318.out).2.1);rintro e w24 ⟨rfl,hb⟩;refine ⟨_,rfl,?_⟩;have n0_:=Aside0.mk (Kd.R_below qz47 hb);have n1_:=Aside0.mk (Kd.R_below qz46 hb);have n2_:=Aside0.mk (Kd.R_below qz45 hb);have n3_:=Aside0.mk (Kd.R_below qz44 hb);have n4_:=Aside0.mk (Kd.R_below qz43 hb);have n5_:=Aside0.mk (Kd.R_below qz42 hb);have n6_:=Aside0.mk (blk_below (g:=gb320) (o:=.cells #[.int .i64 t309,.slice Ao9 t310.length co9,.slice Ao10 t313.length co10,.slice Ao11 t316.length co11] 24 (0,0)) qz87 hb);have n7_:=Aside0.mk (blk_below (g:=gb332) (o:=.cells #[.int .i64 t321,.slice Ao16 t322.length co16,.slice Ao17 t325.length co17,.slice Ao18 t328.length co18] 24 (0,0)) qz66 hb);have n8_:=Aside0.mk (below_step qz14 hb);clear HO312 HO315 HO318 HO324 HO327 HO330 BK320 BK332 HB;have HO312:=n0_;have HO315:=n1_;have HO318:=n2_;have HO324:=n3_;have HO327:=n4_;have HO330:=n5_;have BK320:=n6_;have BK332:=n7_;have HB:=n8_;clear n0_ n1_ n2_ n3_ n4_ n5_ n6_ n7_ n8_;(try clear hb);(try clear hb2);(try clear hk);(try clear hi)))
    go_meet
    case rel=>exact ⟨_,((t331 != t319)),qz9,H',⟨qz107⟩,⟨qz173⟩,⟨qz172⟩,⟨qz171⟩,⟨qz170⟩,⟨qz169⟩,⟨qz168⟩,⟨qz26⟩,⟨qz30⟩,⟨qz14⟩⟩
   ·replace c20:=Bool.eq_false_iff.mpr c20
    subst c20
    have H1:(laws_FnExactGoalRead.j0 k a0 t319 true t309 t310 t313 t316 t321 t322 t325 t328)=some r:=qz23
    clear H
    have H:=H1
    clear H1
    have H':=Aside0.mk H
    clear H
    have hnb25:=NB332_320.out
    have hnc25:=NB320_332.out
    have hcz26_0:w13.cell? ⟨gb332,0,none⟩=some (.int .i64 0):=(blk_cell BK332.out 0).trans rfl
    have hcz26_1:w13.cell? ⟨gb332,1,none⟩=some (.slice none 0 0):=(blk_cell BK332.out 1).trans rfl
    have hcz26_2:w13.cell? ⟨gb332,2,none⟩=some (.slice none 0 0):=(blk_cell BK332.out 2).trans rfl
    have hcz26_3:w13.cell? ⟨gb332,3,none⟩=some (.slice none 0 0):=(blk_cell BK332.out 3).trans rfl
    have hfz26_0:=blk_frozen BK332.out 0
    have hfz26_1:=blk_frozen BK332.out 1
    have hfz26_2:=blk_frozen BK332.out 2
    have hfz26_3:=blk_frozen BK332.out 3
    have hcz27_0:w13.cell? ⟨gb320,0,none⟩=some (.int .i64 t309):=(blk_cell BK320.out 0).trans rfl
    have hcz27_1:w13.cell? ⟨gb320,1,none⟩=some (.slice Ao9 t310.length co9):=(blk_cell BK320.out 1).trans rfl
    have hcz27_2:w13.cell? ⟨gb320,2,none⟩=some (.slice Ao10 t313.length co10):=(blk_cell BK320.out 2).trans rfl
    have hcz27_3:w13.cell? ⟨gb320,3,none⟩=some (.slice Ao11 t316.length co11):=(blk_cell BK320.out 3).trans rfl
    have hfz27_0:=blk_frozen BK320.out 0
    have hfz27_1:=blk_frozen BK320.out 1
    have hfz27_2:=blk_frozen BK320.out 2
    have hfz27_3:=blk_frozen BK320.out 3
    go_wp2_with (first|((with_reducible refine gate_callee (f:=8) rfl ?_);refine goesL_ (some 26) rfl rfl Tryz.func8 (by kernel_rfl) rfl #[.agg #[.int .i64 t321,.slice Ao16 t322.length co16,.slice Ao17 t325.length co17,.slice Ao18 t328.length co18],.agg #[.int .i64 t309,.slice Ao9 t310.length co9,.slice Ao10 t313.length co10,.slice Ao11 t316.length co11]] rfl qz2 ?_;(with_reducible refine (laws_eqPrgGoal.calls k t321 _ _ t322 _ _ t325 _ _ t328 t309 _ _ t310 _ _ t313 _ _ t316 false _ ?side1 ?side2 ?side3 ?side4 ?side5 ?side6 ?side7 ?side8 ?side9 ?side10 ?side11 ?side12 A19.out).mono ?_);(case side1=>exact qz117);(case side2=>exact (Kd.R_reads' HO324.out).2.1);(case side3=>exact qz118);(case side4=>exact (Kd.R_reads' HO327.out).2.1);(case side5=>exact qz119);(case side6=>exact (Kd.R_reads' HO330.out).2.1);(case side7=>exact qz114);(case side8=>exact (Kd.R_reads' HO312.out).2.1);(case side9=>exact qz115);(case side10=>exact (Kd.R_reads' HO315.out).2.1);(case side11=>exact qz116);(case side12=>exact (Kd.R_reads' HO318.out).2.1);rintro e w28 ⟨rfl,hb⟩;refine ⟨_,rfl,?_⟩;have n0_:=Aside0.mk (Kd.R_below qz47 hb);have n1_:=Aside0.mk (Kd.R_below qz46 hb);have n2_:=Aside0.mk (Kd.R_below qz45 hb);have n3_:=Aside0.mk (Kd.R_below qz44 hb);have n4_:=Aside0.mk (Kd.R_below qz43 hb);have n5_:=Aside0.mk (Kd.R_below qz42 hb);have n6_:=Aside0.mk (blk_below (g:=gb320) (o:=.cells #[.int .i64 t309,.slice Ao9 t310.length co9,.slice Ao10 t313.length co10,.slice Ao11 t316.length co11] 24 (0,0)) qz87 hb);have n7_:=Aside0.mk (blk_below (g:=gb332) (o:=.cells #[.int .i64 t321,.slice Ao16 t322.length co16,.slice Ao17 t325.length co17,.slice Ao18 t328.length co18] 24 (0,0)) qz66 hb);have n8_:=Aside0.mk (below_step qz14 hb);clear HO312 HO315 HO318 HO324 HO327 HO330 BK320 BK332 HB;have HO312:=n0_;have HO315:=n1_;have HO318:=n2_;have HO324:=n3_;have HO327:=n4_;have HO330:=n5_;have BK320:=n6_;have BK332:=n7_;have HB:=n8_;clear n0_ n1_ n2_ n3_ n4_ n5_ n6_ n7_ n8_;(try clear hb);(try clear hb2);(try clear hk);(try clear hi)))
    go_meet
    case rel=>exact ⟨_,(true),qz9,H',⟨qz107⟩,⟨qz173⟩,⟨qz172⟩,⟨qz171⟩,⟨qz170⟩,⟨qz169⟩,⟨qz168⟩,⟨qz26⟩,⟨qz30⟩,⟨qz14⟩⟩
  case rest=>
   clear HC5
   try clear c1
   try clear c2
   try clear c2b0
   try clear c2b1
   try clear p2
   try clear c3
   try clear c6
   try clear c7
   try clear c8
   try clear c14
   try clear c20
   try clear c21
   try clear c25
   try clear hcz15_0
   try clear hcz15_1
   try clear hcz15_2
   try clear hcz15_3
   try clear hcz22_0
   try clear hcz22_1
   try clear hcz22_2
   try clear hcz22_3
   try clear hcz23_0
   try clear hcz23_1
   try clear hcz23_2
   try clear hcz23_3
   try clear hcz26_0
   try clear hcz26_1
   try clear hcz26_2
   try clear hcz26_3
   try clear hcz27_0
   try clear hcz27_1
   try clear hcz27_2
   try clear hcz27_3
   try clear hcz8_0
   try clear hcz8_1
   try clear hcz8_2
   try clear hcz8_3
   try clear hfz15_0
   try clear hfz15_1
   try clear hfz15_2
   try clear hfz15_3
   try clear hfz22_0
   try clear hfz22_1
   try clear hfz22_2
   try clear hfz22_3
   try clear hfz23_0
   try clear hfz23_1
   try clear hfz23_2
   try clear hfz23_3
   try clear hfz26_0
   try clear hfz26_1
   try clear hfz26_2
   try clear hfz26_3
   try clear hfz27_0
   try clear hfz27_1
   try clear hfz27_2
   try clear hfz27_3
   try clear hfz8_0
   try clear hfz8_1
   try clear hfz8_2
   try clear hfz8_3
   obtain ⟨kq,x32_4,rfl,HA,HJ4,HO_321001,HO_321002,HO_321003,HO_333001,HO_333002,HO_333003,BK320,BK332,HB⟩:=hcut
   cases kq with
   | zero=>exact absurd HA.out (by simp [laws_FnExactGoalRead.j0])
   | succ kj4=>
    have H:=HA.out
    clear HA
    simp only [laws_FnExactGoalRead.j0] at H
    by_cases c29:x32_4=true
    ·subst c29
     have H1:(some false)=some r:=qz57
     clear H
     have H:=H1
     clear H1
     obtain rfl:=Option.some.inj H
     go_wp2
     go_ret
     exact ⟨qz4,qz14⟩
    ·replace c29:=Bool.eq_false_iff.mpr c29
     subst c29
     have H1:((laws_markPrgGoal.f kj4 t321 t322 t325 t328 1).bind fun bt334=>((laws_heldPrgGoal.f kj4 t321 bt334.2.1 bt334.2.2.1 bt334.2.2.2 1).bind fun t338=>(if t338<0 then (some false) else (if t338=bt334.1 then ((impl_GoalRead.f kj4 a0).bind fun bt339=>((laws_eqPrgGoal.f kj4 bt339.1 bt339.2.1 bt339.2.2.1 bt339.2.2.2.1 t309 t310 t313 t316).bind fun t351=>(if t351=true then (laws_FnExactGoalRead.j1 kj4 bt334.1 (bt339.2.2.2.2 != t319) t321 bt334.2.1 bt334.2.2.1 bt334.2.2.2) else (laws_FnExactGoalRead.j1 kj4 bt334.1 true t321 bt334.2.1 bt334.2.2.1 bt334.2.2.2)))) else (some false)))))=some r:=qz23
     clear H
     have H:=H1
     clear H1
     replace H:=Option.bind_eq_some_iff.mp H
     obtain ⟨⟨t334,t335,t336,t337⟩,A300,H⟩:=H
     try dsimp only at H
     have A30:=Aside0.mk A300
     clear A300
     replace H:=Option.bind_eq_some_iff.mp H
     obtain ⟨t338,A310,H⟩:=H
     try dsimp only at H
     have A31:=Aside0.mk A310
     clear A310
     by_cases c32:t338<0
     ·rw [if_pos c32] at H
      have c32b0:decide (t338<0)=true:=decide_eq_true c32
      clear c32
      obtain rfl:=Option.some.inj H
      have hnb33:=NB332_320.out
      have hnc33:=NB320_332.out
      have hcz34_0:wc.cell? ⟨gb332,0,none⟩=some (.int .i64 t321):=(blk_cell BK332.out 0).trans rfl
      have hcz34_1:wc.cell? ⟨gb332,1,none⟩=some (.slice Ao16 t322.length co16):=(blk_cell BK332.out 1).trans rfl
      have hcz34_2:wc.cell? ⟨gb332,2,none⟩=some (.slice Ao17 t325.length co17):=(blk_cell BK332.out 2).trans rfl
      have hcz34_3:wc.cell? ⟨gb332,3,none⟩=some (.slice Ao18 t328.length co18):=(blk_cell BK332.out 3).trans rfl
      have hfz34_0:=blk_frozen BK332.out 0
      have hfz34_1:=blk_frozen BK332.out 1
      have hfz34_2:=blk_frozen BK332.out 2
      have hfz34_3:=blk_frozen BK332.out 3
      go_wp2_with (first|((with_reducible refine gate_callee (f:=9) rfl ?_);refine goesL_ (some 35) rfl rfl Tryz.func9 (by kernel_rfl) rfl #[.agg #[.int .i64 t321,.slice Ao16 t322.length co16,.slice Ao17 t325.length co17,.slice Ao18 t328.length co18],.int .i64 1] rfl qz2 ?_;(with_reducible refine (laws_markPrgGoal.calls kj4 t321 (fun k_=>some k_=(.slice Ao16 t322.length co16:Value).ownBlock) (.slice Ao16 t322.length co16) t322 (fun k_=>some k_=(.slice Ao17 t325.length co17:Value).ownBlock) (.slice Ao17 t325.length co17) t325 (fun k_=>some k_=(.slice Ao18 t328.length co18:Value).ownBlock) (.slice Ao18 t328.length co18) t328 1 t334 t335 t336 t337 w _ ?side1 ?side2 ?side3 ?side4 ?side5 ?side6 ?side7 ?side8 ?side9 ?side10 A30.out).mono ?_);(case side1=>exact qz14);(case side2=>exact Kd.R_tight rfl HO_333001.out);(case side3=>exact fun k_ e_=>(HO_333001.out.1 k_ e_.symm).2.2.2.1);(case side4=>exact fun k_ e_=>(HO_333001.out.1 k_ e_.symm).2.2.2.2);(case side5=>exact Kd.R_tight rfl HO_333002.out);(case side6=>exact fun k_ e_=>(HO_333002.out.1 k_ e_.symm).2.2.2.1);(case side7=>exact fun k_ e_=>(HO_333002.out.1 k_ e_.symm).2.2.2.2);(case side8=>exact Kd.R_tight rfl HO_333003.out);(case side9=>exact fun k_ e_=>(HO_333003.out.1 k_ e_.symm).2.2.2.1);(case side10=>exact fun k_ e_=>(HO_333003.out.1 k_ e_.symm).2.2.2.2);rintro e w35 ⟨rfl,hy0,hy1,hy2,hb,hkp⟩;refine ⟨_,rfl,?_⟩;have n0_:=Aside0.mk (Kd.R_mono (ok':=fun k_=>some k_≠(.slice Ao10 t313.length co10:Value).ownBlock∧some k_≠(.slice Ao11 t316.length co11:Value).ownBlock∧some k_≠(.slice Ao16 t322.length co16:Value).ownBlock∧some k_≠(.slice Ao17 t325.length co17:Value).ownBlock∧some k_≠(.slice Ao18 t328.length co18:Value).ownBlock) (Kd.R_keptB (HO_321001.out) hkp (fun k_ hk_ hs_=>Or.elim hs_ (fun e_=>(hk_.2.2.1) e_) (fun e_=>Or.elim e_ (fun e_=>(hk_.2.2.2.1) e_) (fun e_=>(hk_.2.2.2.2) e_)))) (fun k_ hk_=>⟨hk_.1.1,hk_.1.2.1,hk_.1.2.2.1,hk_.1.2.2.2.1,hk_.1.2.2.2.2⟩));have n1_:=Aside0.mk (Kd.R_mono (ok':=fun k_=>some k_≠(.slice Ao9 t310.length co9:Value).ownBlock∧some k_≠(.slice Ao11 t316.length co11:Value).ownBlock∧some k_≠(.slice Ao16 t322.length co16:Value).ownBlock∧some k_≠(.slice Ao17 t325.length co17:Value).ownBlock∧some k_≠(.slice Ao18 t328.length co18:Value).ownBlock) (Kd.R_keptB (HO_321002.out) hkp (fun k_ hk_ hs_=>Or.elim hs_ (fun e_=>(hk_.2.2.1) e_) (fun e_=>Or.elim e_ (fun e_=>(hk_.2.2.2.1) e_) (fun e_=>(hk_.2.2.2.2) e_)))) (fun k_ hk_=>⟨hk_.1.1,hk_.1.2.1,hk_.1.2.2.1,hk_.1.2.2.2.1,hk_.1.2.2.2.2⟩));have n2_:=Aside0.mk (Kd.R_mono (ok':=fun k_=>some k_≠(.slice Ao9 t310.length co9:Value).ownBlock∧some k_≠(.slice Ao10 t313.length co10:Value).ownBlock∧some k_≠(.slice Ao16 t322.length co16:Value).ownBlock∧some k_≠(.slice Ao17 t325.length co17:Value).ownBlock∧some k_≠(.slice Ao18 t328.length co18:Value).ownBlock) (Kd.R_keptB (HO_321003.out) hkp (fun k_ hk_ hs_=>Or.elim hs_ (fun e_=>(hk_.2.2.1) e_) (fun e_=>Or.elim e_ (fun e_=>(hk_.2.2.2.1) e_) (fun e_=>(hk_.2.2.2.2) e_)))) (fun k_ hk_=>⟨hk_.1.1,hk_.1.2.1,hk_.1.2.2.1,hk_.1.2.2.2.1,hk_.1.2.2.2.2⟩));have n3_:=Aside0.mk (Kd.R_reok rfl hy0 (fun k_ e_=>HO_333001.out.1 k_ e_));have n4_:=Aside0.mk (Kd.R_reok rfl hy1 (fun k_ e_=>HO_333002.out.1 k_ e_));have n5_:=Aside0.mk (Kd.R_reok rfl hy2 (fun k_ e_=>HO_333003.out.1 k_ e_));have n6_:=Aside0.mk (blk_kept qz26 hkp (fun hs_=>Or.elim hs_ (fun e_=>(fun e_=>absurd e_ qz160) e_) (fun e_=>Or.elim e_ (fun e_=>(fun e_=>absurd e_ qz158) e_) (fun e_=>(fun e_=>absurd e_ qz156) e_))));have n7_:=Aside0.mk (blk_kept qz30 hkp (fun hs_=>Or.elim hs_ (fun e_=>(fun e_=>absurd e_ qz159) e_) (fun e_=>Or.elim e_ (fun e_=>(fun e_=>absurd e_ qz157) e_) (fun e_=>(fun e_=>absurd e_ qz155) e_))));have n8_:=Aside0.mk (hb);clear HO_321001 HO_321002 HO_321003 HO_333001 HO_333002 HO_333003 BK320 BK332 HB;have HO_321001:=n0_;have HO_321002:=n1_;have HO_321003:=n2_;have HO_333001:=n3_;have HO_333002:=n4_;have HO_333003:=n5_;have BK320:=n6_;have BK332:=n7_;have HB:=n8_;clear n0_ n1_ n2_ n3_ n4_ n5_ n6_ n7_ n8_;(try clear hb);(try clear hkp);(try clear hy0);(try clear hy1);(try clear hy2);have hcz36_0:w35.cell? ⟨gb332,0,none⟩=some (.int .i64 t321):=(blk_cell BK332.out 0).trans rfl;have hcz36_1:w35.cell? ⟨gb332,1,none⟩=some (.slice Ao16 t322.length co16):=(blk_cell BK332.out 1).trans rfl;have hcz36_2:w35.cell? ⟨gb332,2,none⟩=some (.slice Ao17 t325.length co17):=(blk_cell BK332.out 2).trans rfl;have hcz36_3:w35.cell? ⟨gb332,3,none⟩=some (.slice Ao18 t328.length co18):=(blk_cell BK332.out 3).trans rfl;have hfz36_0:=blk_frozen BK332.out 0;have hfz36_1:=blk_frozen BK332.out 1;have hfz36_2:=blk_frozen BK332.out 2;have hfz36_3:=blk_frozen BK332.out 3)|((with_reducible refine gate_callee (f:=10) rfl ?_);refine goesL_ (some 38) rfl rfl Tryz.func10 (by kernel_rfl) rfl #[.agg #[.int .i64 t321,.slice Ao16 t335.length co16,.slice Ao17 t336.length co17,.slice Ao18 t337.length co18],.int .i64 1] rfl qz81 ?_;(with_reducible refine (laws_heldPrgGoal.calls kj4 t321 _ _ t335 _ _ t336 _ _ t337 1 t338 _ ?side1 ?side2 ?side3 ?side4 ?side5 ?side6 A31.out).mono ?_);(case side1=>exact qz79);(case side2=>exact qz154);(case side3=>exact qz78);(case side4=>exact qz153);(case side5=>exact qz77);(case side6=>exact qz152);rintro e w37 ⟨rfl,hb⟩;refine ⟨_,rfl,?_⟩;have n0_:=Aside0.mk (Kd.R_below qz63 hb);have n1_:=Aside0.mk (Kd.R_below qz62 hb);have n2_:=Aside0.mk (Kd.R_below qz61 hb);have n3_:=Aside0.mk (Kd.R_below qz60 hb);have n4_:=Aside0.mk (Kd.R_below qz59 hb);have n5_:=Aside0.mk (Kd.R_below qz58 hb);have n6_:=Aside0.mk (blk_below (g:=gb320) (o:=.cells #[.int .i64 t309,.slice Ao9 t310.length co9,.slice Ao10 t313.length co10,.slice Ao11 t316.length co11] 24 (0,0)) qz26 hb);have n7_:=Aside0.mk (blk_below (g:=gb332) (o:=.cells #[.int .i64 t321,.slice Ao16 t322.length co16,.slice Ao17 t325.length co17,.slice Ao18 t328.length co18] 24 (0,0)) qz30 hb);have n8_:=Aside0.mk (below_step qz14 hb);clear HO_321001 HO_321002 HO_321003 HO_333001 HO_333002 HO_333003 BK320 BK332 HB;have HO_321001:=n0_;have HO_321002:=n1_;have HO_321003:=n2_;have HO_333001:=n3_;have HO_333002:=n4_;have HO_333003:=n5_;have BK320:=n6_;have BK332:=n7_;have HB:=n8_;clear n0_ n1_ n2_ n3_ n4_ n5_ n6_ n7_ n8_;(try clear hb);(try clear hb2);(try clear hk);(try clear hi)))
      go_ret
      exact ⟨qz4,qz14⟩
     ·rw [if_neg c32] at H
      have c32b0:decide (t338<0)=false:=decide_eq_false c32
      clear c32
      by_cases c38:t338=t334
      ·rw [if_pos c38] at H
       have c38b0:(t338 == t334)=true:=beq_iff_eq.mpr c38
       have c38b1:(t338 != t334)=false:=bne_eq_false_iff_eq.mpr c38
       clear c38
       replace H:=Option.bind_eq_some_iff.mp H
       obtain ⟨⟨t339,t340,t343,t346,t349⟩,A390,H⟩:=H
       try dsimp only at H
       have A39:=Aside0.mk A390
       clear A390
       have HC40:=Aside0.mk H
       clear H
       have hnb41:=NB332_320.out
       have hnc41:=NB320_332.out
       have hcz42_0:wc.cell? ⟨gb332,0,none⟩=some (.int .i64 t321):=(blk_cell BK332.out 0).trans rfl
       have hcz42_1:wc.cell? ⟨gb332,1,none⟩=some (.slice Ao16 t322.length co16):=(blk_cell BK332.out 1).trans rfl
       have hcz42_2:wc.cell? ⟨gb332,2,none⟩=some (.slice Ao17 t325.length co17):=(blk_cell BK332.out 2).trans rfl
       have hcz42_3:wc.cell? ⟨gb332,3,none⟩=some (.slice Ao18 t328.length co18):=(blk_cell BK332.out 3).trans rfl
       have hfz42_0:=blk_frozen BK332.out 0
       have hfz42_1:=blk_frozen BK332.out 1
       have hfz42_2:=blk_frozen BK332.out 2
       have hfz42_3:=blk_frozen BK332.out 3
       go_upto_region 16 with (first|((with_reducible refine gate_callee (f:=9) rfl ?_);refine goesL_ (some 35) rfl rfl Tryz.func9 (by kernel_rfl) rfl #[.agg #[.int .i64 t321,.slice Ao16 t322.length co16,.slice Ao17 t325.length co17,.slice Ao18 t328.length co18],.int .i64 1] rfl qz2 ?_;(with_reducible refine (laws_markPrgGoal.calls kj4 t321 (fun k_=>some k_=(.slice Ao16 t322.length co16:Value).ownBlock) (.slice Ao16 t322.length co16) t322 (fun k_=>some k_=(.slice Ao17 t325.length co17:Value).ownBlock) (.slice Ao17 t325.length co17) t325 (fun k_=>some k_=(.slice Ao18 t328.length co18:Value).ownBlock) (.slice Ao18 t328.length co18) t328 1 t334 t335 t336 t337 w _ ?side1 ?side2 ?side3 ?side4 ?side5 ?side6 ?side7 ?side8 ?side9 ?side10 A30.out).mono ?_);(case side1=>exact qz14);(case side2=>exact Kd.R_tight rfl HO_333001.out);(case side3=>exact fun k_ e_=>(HO_333001.out.1 k_ e_.symm).2.2.2.1);(case side4=>exact fun k_ e_=>(HO_333001.out.1 k_ e_.symm).2.2.2.2);(case side5=>exact Kd.R_tight rfl HO_333002.out);(case side6=>exact fun k_ e_=>(HO_333002.out.1 k_ e_.symm).2.2.2.1);(case side7=>exact fun k_ e_=>(HO_333002.out.1 k_ e_.symm).2.2.2.2);(case side8=>exact Kd.R_tight rfl HO_333003.out);(case side9=>exact fun k_ e_=>(HO_333003.out.1 k_ e_.symm).2.2.2.1);(case side10=>exact fun k_ e_=>(HO_333003.out.1 k_ e_.symm).2.2.2.2);rintro e w43 ⟨rfl,hy0,hy1,hy2,hb,hkp⟩;refine ⟨_,rfl,?_⟩;have n0_:=Aside0.mk (Kd.R_mono (ok':=fun k_=>some k_≠(.slice Ao10 t313.length co10:Value).ownBlock∧some k_≠(.slice Ao11 t316.length co11:Value).ownBlock∧some k_≠(.slice Ao16 t322.length co16:Value).ownBlock∧some k_≠(.slice Ao17 t325.length co17:Value).ownBlock∧some k_≠(.slice Ao18 t328.length co18:Value).ownBlock) (Kd.R_keptB (HO_321001.out) hkp (fun k_ hk_ hs_=>Or.elim hs_ (fun e_=>(hk_.2.2.1) e_) (fun e_=>Or.elim e_ (fun e_=>(hk_.2.2.2.1) e_) (fun e_=>(hk_.2.2.2.2) e_)))) (fun k_ hk_=>⟨hk_.1.1,hk_.1.2.1,hk_.1.2.2.1,hk_.1.2.2.2.1,hk_.1.2.2.2.2⟩));have n1_:=Aside0.mk (Kd.R_mono (ok':=fun k_=>some k_≠(.slice Ao9 t310.length co9:Value).ownBlock∧some k_≠(.slice Ao11 t316.length co11:Value).ownBlock∧some k_≠(.slice Ao16 t322.length co16:Value).ownBlock∧some k_≠(.slice Ao17 t325.length co17:Value).ownBlock∧some k_≠(.slice Ao18 t328.length co18:Value).ownBlock) (Kd.R_keptB (HO_321002.out) hkp (fun k_ hk_ hs_=>Or.elim hs_ (fun e_=>(hk_.2.2.1) e_) (fun e_=>Or.elim e_ (fun e_=>(hk_.2.2.2.1) e_) (fun e_=>(hk_.2.2.2.2) e_)))) (fun k_ hk_=>⟨hk_.1.1,hk_.1.2.1,hk_.1.2.2.1,hk_.1.2.2.2.1,hk_.1.2.2.2.2⟩));have n2_:=Aside0.mk (Kd.R_mono (ok':=fun k_=>some k_≠(.slice Ao9 t310.length co9:Value).ownBlock∧some k_≠(.slice Ao10 t313.length co10:Value).ownBlock∧some k_≠(.slice Ao16 t322.length co16:Value).ownBlock∧some k_≠(.slice Ao17 t325.length co17:Value).ownBlock∧some k_≠(.slice Ao18 t328.length co18:Value).ownBlock) (Kd.R_keptB (HO_321003.out) hkp (fun k_ hk_ hs_=>Or.elim hs_ (fun e_=>(hk_.2.2.1) e_) (fun e_=>Or.elim e_ (fun e_=>(hk_.2.2.2.1) e_) (fun e_=>(hk_.2.2.2.2) e_)))) (fun k_ hk_=>⟨hk_.1.1,hk_.1.2.1,hk_.1.2.2.1,hk_.1.2.2.2.1,hk_.1.2.2.2.2⟩));have n3_:=Aside0.mk (Kd.R_reok rfl hy0 (fun k_ e_=>HO_333001.out.1 k_ e_));have n4_:=Aside0.mk (Kd.R_reok rfl hy1 (fun k_ e_=>HO_333002.out.1 k_ e_));have n5_:=Aside0.mk (Kd.R_reok rfl hy2 (fun k_ e_=>HO_333003.out.1 k_ e_));have n6_:=Aside0.mk (blk_kept qz26 hkp (fun hs_=>Or.elim hs_ (fun e_=>(fun e_=>absurd e_ qz160) e_) (fun e_=>Or.elim e_ (fun e_=>(fun e_=>absurd e_ qz158) e_) (fun e_=>(fun e_=>absurd e_ qz156) e_))));have n7_:=Aside0.mk (blk_kept qz30 hkp (fun hs_=>Or.elim hs_ (fun e_=>(fun e_=>absurd e_ qz159) e_) (fun e_=>Or.elim e_ (fun e_=>(fun e_=>absurd e_ qz157) e_) (fun e_=>(fun e_=>absurd e_ qz155) e_))));have n8_:=Aside0.mk (hb);clear HO_321001 HO_321002 HO_321003 HO_333001 HO_333002 HO_333003 BK320 BK332 HB;have HO_321001:=n0_;have HO_321002:=n1_;have HO_321003:=n2_;have HO_333001:=n3_;have HO_333002:=n4_;have HO_333003:=n5_;have BK320:=n6_;have BK332:=n7_;have HB:=n8_;clear n0_ n1_ n2_ n3_ n4_ n5_ n6_ n7_ n8_;(try clear hb);(try clear hkp);(try clear hy0);(try clear hy1);(try clear hy2);have hcz44_0:w43.cell? ⟨gb332,0,none⟩=some (.int .i64 t321):=(blk_cell BK332.out 0).trans rfl;have hcz44_1:w43.cell? ⟨gb332,1,none⟩=some (.slice Ao16 t322.length co16):=(blk_cell BK332.out 1).trans rfl;have hcz44_2:w43.cell? ⟨gb332,2,none⟩=some (.slice Ao17 t325.length co17):=(blk_cell BK332.out 2).trans rfl;have hcz44_3:w43.cell? ⟨gb332,3,none⟩=some (.slice Ao18 t328.length co18):=(blk_cell BK332.out 3).trans rfl;have hfz44_0:=blk_frozen BK332.out 0;have hfz44_1:=blk_frozen BK332.out 1;have hfz44_2:=blk_frozen BK332.out 2;have hfz44_3:=blk_frozen BK332.out 3)|((with_reducible refine gate_callee (f:=10) rfl ?_);refine goesL_ (some 38) rfl rfl Tryz.func10 (by kernel_rfl) rfl #[.agg #[.int .i64 t321,.slice Ao16 t335.length co16,.slice Ao17 t336.length co17,.slice Ao18 t337.length co18],.int .i64 1] rfl qz81 ?_;(with_reducible refine (laws_heldPrgGoal.calls kj4 t321 _ _ t335 _ _ t336 _ _ t337 1 t338 _ ?side1 ?side2 ?side3 ?side4 ?side5 ?side6 A31.out).mono ?_);(case side1=>exact qz79);(case side2=>exact qz154);(case side3=>exact qz78);(case side4=>exact qz153);(case side5=>exact qz77);(case side6=>exact qz152);rintro e w45 ⟨rfl,hb⟩;refine ⟨_,rfl,?_⟩;have n0_:=Aside0.mk (Kd.R_below qz63 hb);have n1_:=Aside0.mk (Kd.R_below qz62 hb);have n2_:=Aside0.mk (Kd.R_below qz61 hb);have n3_:=Aside0.mk (Kd.R_below qz60 hb);have n4_:=Aside0.mk (Kd.R_below qz59 hb);have n5_:=Aside0.mk (Kd.R_below qz58 hb);have n6_:=Aside0.mk (blk_below (g:=gb320) (o:=.cells #[.int .i64 t309,.slice Ao9 t310.length co9,.slice Ao10 t313.length co10,.slice Ao11 t316.length co11] 24 (0,0)) qz26 hb);have n7_:=Aside0.mk (blk_below (g:=gb332) (o:=.cells #[.int .i64 t321,.slice Ao16 t322.length co16,.slice Ao17 t325.length co17,.slice Ao18 t328.length co18] 24 (0,0)) qz30 hb);have n8_:=Aside0.mk (below_step qz14 hb);clear HO_321001 HO_321002 HO_321003 HO_333001 HO_333002 HO_333003 BK320 BK332 HB;have HO_321001:=n0_;have HO_321002:=n1_;have HO_321003:=n2_;have HO_333001:=n3_;have HO_333002:=n4_;have HO_333003:=n5_;have BK320:=n6_;have BK332:=n7_;have HB:=n8_;clear n0_ n1_ n2_ n3_ n4_ n5_ n6_ n7_ n8_;(try clear hb);(try clear hb2);(try clear hk);(try clear hi))|((with_reducible refine gate_callee (f:=7) rfl ?_);refine goesL_ (some 46) rfl rfl Tryz.func7 (by kernel_rfl) rfl #[.string a0] rfl qz2 ?_;(with_reducible refine (impl_GoalRead.calls (hM_:=HQM_.out.below qz15) (hE_:=HQE_.out.below qz15) (hT_:=HQT_.out.below qz15) kj4 a0 t339 t340 t343 t346 t349 _ A39.out).mono ?_);rintro e w46 ⟨v341,v344,v347,rfl,ho0,ho1,ho2,hb⟩;refine ⟨_,rfl,?_⟩;have n0_:=Aside0.mk (Kd.R_mono (Kd.R_told (Kd.R_told (Kd.R_told (Kd.R_old qz63 hb) (Kd.R_base ho0)) (Kd.R_base ho1)) (Kd.R_base ho2)) (fun _ h_=>h_.1));have n1_:=Aside0.mk (Kd.R_mono (Kd.R_told (Kd.R_told (Kd.R_told (Kd.R_old qz62 hb) (Kd.R_base ho0)) (Kd.R_base ho1)) (Kd.R_base ho2)) (fun _ h_=>h_.1));have n2_:=Aside0.mk (Kd.R_mono (Kd.R_told (Kd.R_told (Kd.R_told (Kd.R_old qz61 hb) (Kd.R_base ho0)) (Kd.R_base ho1)) (Kd.R_base ho2)) (fun _ h_=>h_.1));have n3_:=Aside0.mk (Kd.R_mono (Kd.R_told (Kd.R_told (Kd.R_told (Kd.R_old qz60 hb) (Kd.R_base ho0)) (Kd.R_base ho1)) (Kd.R_base ho2)) (fun _ h_=>h_.1));have n4_:=Aside0.mk (Kd.R_mono (Kd.R_told (Kd.R_told (Kd.R_told (Kd.R_old qz59 hb) (Kd.R_base ho0)) (Kd.R_base ho1)) (Kd.R_base ho2)) (fun _ h_=>h_.1));have n5_:=Aside0.mk (Kd.R_mono (Kd.R_told (Kd.R_told (Kd.R_told (Kd.R_old qz58 hb) (Kd.R_base ho0)) (Kd.R_base ho1)) (Kd.R_base ho2)) (fun _ h_=>h_.1));have n6_:=Aside0.mk (Kd.R_lower (Kd.R_new' (Kd.R_new' (Kd.R_new' (Kd.R_new' (Kd.R_new' (Kd.R_new' ho0 (Kd.R_lt qz63)) (Kd.R_lt qz62)) (Kd.R_lt qz61)) (Kd.R_lt qz60)) (Kd.R_lt qz59)) (Kd.R_lt qz58)) (below_size qz14));have n7_:=Aside0.mk (Kd.R_lower (Kd.R_new' (Kd.R_new' (Kd.R_new' (Kd.R_new' (Kd.R_new' (Kd.R_new' ho1 (Kd.R_lt qz63)) (Kd.R_lt qz62)) (Kd.R_lt qz61)) (Kd.R_lt qz60)) (Kd.R_lt qz59)) (Kd.R_lt qz58)) (below_size qz14));have n8_:=Aside0.mk (Kd.R_lower (Kd.R_new' (Kd.R_new' (Kd.R_new' (Kd.R_new' (Kd.R_new' (Kd.R_new' ho2 (Kd.R_lt qz63)) (Kd.R_lt qz62)) (Kd.R_lt qz61)) (Kd.R_lt qz60)) (Kd.R_lt qz59)) (Kd.R_lt qz58)) (below_size qz14));have n9_:=Aside0.mk (blk_below (g:=gb320) (o:=.cells #[.int .i64 t309,.slice Ao9 t310.length co9,.slice Ao10 t313.length co10,.slice Ao11 t316.length co11] 24 (0,0)) qz26 hb);have n10_:=Aside0.mk (blk_below (g:=gb332) (o:=.cells #[.int .i64 t321,.slice Ao16 t322.length co16,.slice Ao17 t325.length co17,.slice Ao18 t328.length co18] 24 (0,0)) qz30 hb);have n11_:=Aside0.mk (below_step qz14 hb);clear HO_321001 HO_321002 HO_321003 HO_333001 HO_333002 HO_333003 BK320 BK332 HB;have HO_321001:=n0_;have HO_321002:=n1_;have HO_321003:=n2_;have HO_333001:=n3_;have HO_333002:=n4_;have HO_333003:=n5_;have HO342:=n6_;have HO345:=n7_;have HO348:=n8_;have BK320:=n9_;have BK332:=n10_;have HB:=n11_;clear n0_ n1_ n2_ n3_ n4_ n5_ n6_ n7_ n8_ n9_ n10_ n11_;(try clear hb);(try clear hb2);(try clear hk);(try clear hi);(try clear ho0);(try clear ho1);(try clear ho2))|((with_reducible refine gate_dst (N:=9) rfl ?_);refine box_event ?hg (N:=9) ?hd (cs:=#[.int .i64 0,.slice none 0 0,.slice none 0 0,.slice none 0 0]) (t:=24) ?hr ?_;(case hd=>rfl);(case hg=>rfl);(case hr=>first|(go_simp;done)|(go_simp;rfl));intro gb350 hg w47 hbox hb;have n0_:=Aside0.mk (Kd.R_below qz63 hb);have n1_:=Aside0.mk (Kd.R_below qz62 hb);have n2_:=Aside0.mk (Kd.R_below qz61 hb);have n3_:=Aside0.mk (Kd.R_below qz60 hb);have n4_:=Aside0.mk (Kd.R_below qz59 hb);have n5_:=Aside0.mk (Kd.R_below qz58 hb);have n6_:=Aside0.mk (Kd.R_below (by (with_reducible repeat (first|apply Kd.R_alloc|apply Kd.R_drewN|apply Kd.R_drew));exact HO342.out) hb);have n7_:=Aside0.mk (Kd.R_below (by (with_reducible repeat (first|apply Kd.R_alloc|apply Kd.R_drewN|apply Kd.R_drew));exact HO345.out) hb);have n8_:=Aside0.mk (Kd.R_below (by (with_reducible repeat (first|apply Kd.R_alloc|apply Kd.R_drewN|apply Kd.R_drew));exact HO348.out) hb);have n9_:=Aside0.mk (blk_below (g:=gb320) (o:=.cells #[.int .i64 t309,.slice Ao9 t310.length co9,.slice Ao10 t313.length co10,.slice Ao11 t316.length co11] 24 (0,0)) qz26 hb);have n10_:=Aside0.mk (blk_below (g:=gb332) (o:=.cells #[.int .i64 t321,.slice Ao16 t322.length co16,.slice Ao17 t325.length co17,.slice Ao18 t328.length co18] 24 (0,0)) qz30 hb);have n11_:=Aside0.mk (below_step qz14 hb);have n12_:=Aside0.mk (hbox);have n13_:=Aside0.mk ((by rw [hg];exact (below_size qz14):w.heap.size≤gb350));have n14_:=Aside0.mk ((by rw [hg];exact (below_size qz14):w.heap.size≤gb350));have n15_:=Aside0.mk ((by rw [hg];exact Nat.ne_of_lt (blk_lt (g:=gb320) (o:=.cells #[.int .i64 t309,.slice Ao9 t310.length co9,.slice Ao10 t313.length co10,.slice Ao11 t316.length co11] 24 (0,0)) qz26):gb320≠gb350));have n16_:=Aside0.mk ((by rw [hg];exact Nat.ne_of_gt (blk_lt (g:=gb320) (o:=.cells #[.int .i64 t309,.slice Ao9 t310.length co9,.slice Ao10 t313.length co10,.slice Ao11 t316.length co11] 24 (0,0)) qz26):gb350≠gb320));have n17_:=Aside0.mk ((by rw [hg];exact Nat.ne_of_lt (blk_lt (g:=gb332) (o:=.cells #[.int .i64 t321,.slice Ao16 t322.length co16,.slice Ao17 t325.length co17,.slice Ao18 t328.length co18] 24 (0,0)) qz30):gb332≠gb350));have n18_:=Aside0.mk ((by rw [hg];exact Nat.ne_of_gt (blk_lt (g:=gb332) (o:=.cells #[.int .i64 t321,.slice Ao16 t322.length co16,.slice Ao17 t325.length co17,.slice Ao18 t328.length co18] 24 (0,0)) qz30):gb350≠gb332));clear HO_321001 HO_321002 HO_321003 HO_333001 HO_333002 HO_333003 HO342 HO345 HO348 BK320 BK332 HB;have HO_321001:=n0_;have HO_321002:=n1_;have HO_321003:=n2_;have HO_333001:=n3_;have HO_333002:=n4_;have HO_333003:=n5_;have HO342:=n6_;have HO345:=n7_;have HO348:=n8_;have BK320:=n9_;have BK332:=n10_;have HB:=n11_;have BK350:=n12_;have GW350:=n13_;have GE350:=n14_;have NB320_350:=n15_;have NB350_320:=n16_;have NB332_350:=n17_;have NB350_332:=n18_;clear n0_ n1_ n2_ n3_ n4_ n5_ n6_ n7_ n8_ n9_ n10_ n11_ n12_ n13_ n14_ n15_ n16_ n17_ n18_ hb hbox hg;have hnb48:=NB350_320.out;have hnc48:=NB320_350.out;have hnb49:=NB350_332.out;have hnc49:=NB332_350.out;have hcz50_0:w47.cell? ⟨gb350,0,none⟩=some (.int .i64 0):=(blk_cell BK350.out 0).trans rfl;have hcz50_1:w47.cell? ⟨gb350,1,none⟩=some (.slice none 0 0):=(blk_cell BK350.out 1).trans rfl;have hcz50_2:w47.cell? ⟨gb350,2,none⟩=some (.slice none 0 0):=(blk_cell BK350.out 2).trans rfl;have hcz50_3:w47.cell? ⟨gb350,3,none⟩=some (.slice none 0 0):=(blk_cell BK350.out 3).trans rfl;have hfz50_0:=blk_frozen BK350.out 0;have hfz50_1:=blk_frozen BK350.out 1;have hfz50_2:=blk_frozen BK350.out 2;have hfz50_3:=blk_frozen BK350.out 3;obtain ⟨Ao51,co51,eo51⟩:=Kd.R_slice HO342.out;subst eo51;obtain ⟨Ao52,co52,eo52⟩:=Kd.R_slice HO345.out;subst eo52;obtain ⟨Ao53,co53,eo53⟩:=Kd.R_slice HO348.out;subst eo53))
       (try simp only [Act.put,List.setIfInBounds_toArray,List.set_cons_zero,List.set_cons_succ])
       go_cut [57] (fun v57 wc=>∃ (kq:Nat) (x57_39:Bool),v57 = .bool x57_39∧Aside0 (laws_FnExactGoalRead.j1 kq t334 x57_39 t321 t335 t336 t337=some r)∧Aside0 (kq≤kj4)∧Aside0 (Kd.R k63 63 wc w.heap.size (fun k_=>some k_≠((.slice Ao10 t313.length co10):Value).ownBlock∧some k_≠((.slice Ao11 t316.length co11):Value).ownBlock∧some k_≠((.slice Ao16 t322.length co16):Value).ownBlock∧some k_≠((.slice Ao17 t325.length co17):Value).ownBlock∧some k_≠((.slice Ao18 t328.length co18):Value).ownBlock∧some k_≠((.slice Ao51 t340.length co51):Value).ownBlock∧some k_≠((.slice Ao52 t343.length co52):Value).ownBlock∧some k_≠((.slice Ao53 t346.length co53):Value).ownBlock) (.slice Ao9 t310.length co9) t310)∧Aside0 (Kd.R k63 63 wc w.heap.size (fun k_=>some k_≠((.slice Ao9 t310.length co9):Value).ownBlock∧some k_≠((.slice Ao11 t316.length co11):Value).ownBlock∧some k_≠((.slice Ao16 t322.length co16):Value).ownBlock∧some k_≠((.slice Ao17 t325.length co17):Value).ownBlock∧some k_≠((.slice Ao18 t328.length co18):Value).ownBlock∧some k_≠((.slice Ao51 t340.length co51):Value).ownBlock∧some k_≠((.slice Ao52 t343.length co52):Value).ownBlock∧some k_≠((.slice Ao53 t346.length co53):Value).ownBlock) (.slice Ao10 t313.length co10) t313)∧Aside0 (Kd.R k63 63 wc w.heap.size (fun k_=>some k_≠((.slice Ao9 t310.length co9):Value).ownBlock∧some k_≠((.slice Ao10 t313.length co10):Value).ownBlock∧some k_≠((.slice Ao16 t322.length co16):Value).ownBlock∧some k_≠((.slice Ao17 t325.length co17):Value).ownBlock∧some k_≠((.slice Ao18 t328.length co18):Value).ownBlock∧some k_≠((.slice Ao51 t340.length co51):Value).ownBlock∧some k_≠((.slice Ao52 t343.length co52):Value).ownBlock∧some k_≠((.slice Ao53 t346.length co53):Value).ownBlock) (.slice Ao11 t316.length co11) t316)∧Aside0 (Kd.R k63 63 wc w.heap.size (fun k_=>some k_≠((.slice Ao9 t310.length co9):Value).ownBlock∧some k_≠((.slice Ao10 t313.length co10):Value).ownBlock∧some k_≠((.slice Ao11 t316.length co11):Value).ownBlock∧some k_≠((.slice Ao17 t325.length co17):Value).ownBlock∧some k_≠((.slice Ao18 t328.length co18):Value).ownBlock∧some k_≠((.slice Ao51 t340.length co51):Value).ownBlock∧some k_≠((.slice Ao52 t343.length co52):Value).ownBlock∧some k_≠((.slice Ao53 t346.length co53):Value).ownBlock) (.slice Ao16 t322.length co16) t335)∧Aside0 (Kd.R k63 63 wc w.heap.size (fun k_=>some k_≠((.slice Ao9 t310.length co9):Value).ownBlock∧some k_≠((.slice Ao10 t313.length co10):Value).ownBlock∧some k_≠((.slice Ao11 t316.length co11):Value).ownBlock∧some k_≠((.slice Ao16 t322.length co16):Value).ownBlock∧some k_≠((.slice Ao18 t328.length co18):Value).ownBlock∧some k_≠((.slice Ao51 t340.length co51):Value).ownBlock∧some k_≠((.slice Ao52 t343.length co52):Value).ownBlock∧some k_≠((.slice Ao53 t346.length co53):Value).ownBlock) (.slice Ao17 t325.length co17) t336)∧Aside0 (Kd.R k63 63 wc w.heap.size (fun k_=>some k_≠((.slice Ao9 t310.length co9):Value).ownBlock∧some k_≠((.slice Ao10 t313.length co10):Value).ownBlock∧some k_≠((.slice Ao11 t316.length co11):Value).ownBlock∧some k_≠((.slice Ao16 t322.length co16):Value).ownBlock∧some k_≠((.slice Ao17 t325.length co17):Value).ownBlock∧some k_≠((.slice Ao51 t340.length co51):Value).ownBlock∧some k_≠((.slice Ao52 t343.length co52):Value).ownBlock∧some k_≠((.slice Ao53 t346.length co53):Value).ownBlock) (.slice Ao18 t328.length co18) t337)∧Aside0 (Kd.R k63 63 wc w.heap.size (fun k_=>some k_≠((.slice Ao9 t310.length co9):Value).ownBlock∧some k_≠((.slice Ao10 t313.length co10):Value).ownBlock∧some k_≠((.slice Ao11 t316.length co11):Value).ownBlock∧some k_≠((.slice Ao16 t322.length co16):Value).ownBlock∧some k_≠((.slice Ao17 t325.length co17):Value).ownBlock∧some k_≠((.slice Ao18 t328.length co18):Value).ownBlock∧some k_≠((.slice Ao52 t343.length co52):Value).ownBlock∧some k_≠((.slice Ao53 t346.length co53):Value).ownBlock) (.slice Ao51 t340.length co51) t340)∧Aside0 (Kd.R k63 63 wc w.heap.size (fun k_=>some k_≠((.slice Ao9 t310.length co9):Value).ownBlock∧some k_≠((.slice Ao10 t313.length co10):Value).ownBlock∧some k_≠((.slice Ao11 t316.length co11):Value).ownBlock∧some k_≠((.slice Ao16 t322.length co16):Value).ownBlock∧some k_≠((.slice Ao17 t325.length co17):Value).ownBlock∧some k_≠((.slice Ao18 t328.length co18):Value).ownBlock∧some k_≠((.slice Ao51 t340.length co51):Value).ownBlock∧some k_≠((.slice Ao53 t346.length co53):Value).ownBlock) (.slice Ao52 t343.length co52) t343)∧Aside0 (Kd.R k63 63 wc w.heap.size (fun k_=>some k_≠((.slice Ao9 t310.length co9):Value).ownBlock∧some k_≠((.slice Ao10 t313.length co10):Value).ownBlock∧some k_≠((.slice Ao11 t316.length co11):Value).ownBlock∧some k_≠((.slice Ao16 t322.length co16):Value).ownBlock∧some k_≠((.slice Ao17 t325.length co17):Value).ownBlock∧some k_≠((.slice Ao18 t328.length co18):Value).ownBlock∧some k_≠((.slice Ao51 t340.length co51):Value).ownBlock∧some k_≠((.slice Ao52 t343.length co52):Value).ownBlock) (.slice Ao53 t346.length co53) t346)∧Aside0 (wc.heap[gb320]?=some (.cells #[.int .i64 t309,(.slice Ao9 t310.length co9),(.slice Ao10 t313.length co10),(.slice Ao11 t316.length co11)] 24 (0,0)))∧Aside0 (wc.heap[gb332]?=some (.cells #[.int .i64 t321,(.slice Ao16 t322.length co16),(.slice Ao17 t325.length co17),(.slice Ao18 t328.length co18)] 24 (0,0)))∧Aside0 (wc.heap[gb350]?=some (.cells #[.int .i64 t339,(.slice Ao51 t340.length co51),(.slice Ao52 t343.length co52),(.slice Ao53 t346.length co53)] 24 (0,0)))∧Aside0 (Below w.heap.size w wc))
       case first=>
        have H:=HC40.out
        clear HC40
        replace H:=Option.bind_eq_some_iff.mp H
        obtain ⟨t351,A540,H⟩:=H
        try dsimp only at H
        have A54:=Aside0.mk A540
        clear A540
        by_cases c55:t351=true
        ·subst c55
         have H1:(laws_FnExactGoalRead.j1 kj4 t334 (t349 != t319) t321 t335 t336 t337)=some r:=qz57
         clear H
         have H:=H1
         clear H1
         have H':=Aside0.mk H
         clear H
         have hnb56:=NB350_320.out
         have hnc56:=NB320_350.out
         have hnb57:=NB350_332.out
         have hnc57:=NB332_350.out
         have hcz58_0:w47.cell? ⟨gb350,0,none⟩=some (.int .i64 0):=(blk_cell BK350.out 0).trans rfl
         have hcz58_1:w47.cell? ⟨gb350,1,none⟩=some (.slice none 0 0):=(blk_cell BK350.out 1).trans rfl
         have hcz58_2:w47.cell? ⟨gb350,2,none⟩=some (.slice none 0 0):=(blk_cell BK350.out 2).trans rfl
         have hcz58_3:w47.cell? ⟨gb350,3,none⟩=some (.slice none 0 0):=(blk_cell BK350.out 3).trans rfl
         have hfz58_0:=blk_frozen BK350.out 0
         have hfz58_1:=blk_frozen BK350.out 1
         have hfz58_2:=blk_frozen BK350.out 2
         have hfz58_3:=blk_frozen BK350.out 3
         have hnb59:=NB320_332.out
         have hnc59:=NB332_320.out
         have hcz60_0:w47.cell? ⟨gb320,0,none⟩=some (.int .i64 t309):=(blk_cell BK320.out 0).trans rfl
         have hcz60_1:w47.cell? ⟨gb320,1,none⟩=some (.slice Ao9 t310.length co9):=(blk_cell BK320.out 1).trans rfl
         have hcz60_2:w47.cell? ⟨gb320,2,none⟩=some (.slice Ao10 t313.length co10):=(blk_cell BK320.out 2).trans rfl
         have hcz60_3:w47.cell? ⟨gb320,3,none⟩=some (.slice Ao11 t316.length co11):=(blk_cell BK320.out 3).trans rfl
         have hfz60_0:=blk_frozen BK320.out 0
         have hfz60_1:=blk_frozen BK320.out 1
         have hfz60_2:=blk_frozen BK320.out 2
         have hfz60_3:=blk_frozen BK320.out 3
         go_wp2_with (first|((with_reducible refine gate_callee (f:=8) rfl ?_);refine goesL_ (some 51) rfl rfl Tryz.func8 (by kernel_rfl) rfl #[.agg #[.int .i64 t339,.slice Ao51 t340.length co51,.slice Ao52 t343.length co52,.slice Ao53 t346.length co53],.agg #[.int .i64 t309,.slice Ao9 t310.length co9,.slice Ao10 t313.length co10,.slice Ao11 t316.length co11]] rfl qz2 ?_;(with_reducible refine (laws_eqPrgGoal.calls kj4 t339 _ _ t340 _ _ t343 _ _ t346 t309 _ _ t310 _ _ t313 _ _ t316 true _ ?side1 ?side2 ?side3 ?side4 ?side5 ?side6 ?side7 ?side8 ?side9 ?side10 ?side11 ?side12 A54.out).mono ?_);(case side1=>exact qz93);(case side2=>exact (Kd.R_reads' HO342.out).2.1);(case side3=>exact qz94);(case side4=>exact (Kd.R_reads' HO345.out).2.1);(case side5=>exact qz95);(case side6=>exact (Kd.R_reads' HO348.out).2.1);(case side7=>exact qz90);(case side8=>exact (Kd.R_reads' HO_321001.out).2.1);(case side9=>exact qz91);(case side10=>exact (Kd.R_reads' HO_321002.out).2.1);(case side11=>exact qz92);(case side12=>exact (Kd.R_reads' HO_321003.out).2.1);rintro e w61 ⟨rfl,hb⟩;refine ⟨_,rfl,?_⟩;have n0_:=Aside0.mk (Kd.R_below qz38 hb);have n1_:=Aside0.mk (Kd.R_below qz37 hb);have n2_:=Aside0.mk (Kd.R_below qz36 hb);have n3_:=Aside0.mk (Kd.R_below qz106 hb);have n4_:=Aside0.mk (Kd.R_below qz105 hb);have n5_:=Aside0.mk (Kd.R_below qz104 hb);have n6_:=Aside0.mk (Kd.R_below qz41 hb);have n7_:=Aside0.mk (Kd.R_below qz40 hb);have n8_:=Aside0.mk (Kd.R_below qz39 hb);have n9_:=Aside0.mk (blk_below (g:=gb320) (o:=.cells #[.int .i64 t309,.slice Ao9 t310.length co9,.slice Ao10 t313.length co10,.slice Ao11 t316.length co11] 24 (0,0)) qz86 hb);have n10_:=Aside0.mk (blk_below (g:=gb332) (o:=.cells #[.int .i64 t321,.slice Ao16 t322.length co16,.slice Ao17 t325.length co17,.slice Ao18 t328.length co18] 24 (0,0)) qz85 hb);have n11_:=Aside0.mk (blk_below (g:=gb350) (o:=.cells #[.int .i64 t339,.slice Ao51 t340.length co51,.slice Ao52 t343.length co52,.slice Ao53 t346.length co53] 24 (0,0)) qz65 hb);have n12_:=Aside0.mk (below_step qz15 hb);clear HO_321001 HO_321002 HO_321003 HO_333001 HO_333002 HO_333003 HO342 HO345 HO348 BK320 BK332 BK350 HB;have HO_321001:=n0_;have HO_321002:=n1_;have HO_321003:=n2_;have HO_333001:=n3_;have HO_333002:=n4_;have HO_333003:=n5_;have HO342:=n6_;have HO345:=n7_;have HO348:=n8_;have BK320:=n9_;have BK332:=n10_;have BK350:=n11_;have HB:=n12_;clear n0_ n1_ n2_ n3_ n4_ n5_ n6_ n7_ n8_ n9_ n10_ n11_ n12_;(try clear hb);(try clear hb2);(try clear hk);(try clear hi)))
         go_meet
         case rel=>exact ⟨_,((t349 != t319)),qz9,H',⟨by have:=HJ4.out;first|omega|exact Nat.le_refl _⟩,⟨qz141⟩,⟨qz140⟩,⟨qz139⟩,⟨qz138⟩,⟨qz137⟩,⟨qz136⟩,⟨qz144⟩,⟨qz143⟩,⟨qz142⟩,⟨qz26⟩,⟨qz30⟩,⟨qz113⟩,⟨qz15⟩⟩
        ·replace c55:=Bool.eq_false_iff.mpr c55
         subst c55
         have H1:(laws_FnExactGoalRead.j1 kj4 t334 true t321 t335 t336 t337)=some r:=qz23
         clear H
         have H:=H1
         clear H1
         have H':=Aside0.mk H
         clear H
         have hnb62:=NB350_320.out
         have hnc62:=NB320_350.out
         have hnb63:=NB350_332.out
         have hnc63:=NB332_350.out
         have hcz64_0:w47.cell? ⟨gb350,0,none⟩=some (.int .i64 0):=(blk_cell BK350.out 0).trans rfl
         have hcz64_1:w47.cell? ⟨gb350,1,none⟩=some (.slice none 0 0):=(blk_cell BK350.out 1).trans rfl
         have hcz64_2:w47.cell? ⟨gb350,2,none⟩=some (.slice none 0 0):=(blk_cell BK350.out 2).trans rfl
         have hcz64_3:w47.cell? ⟨gb350,3,none⟩=some (.slice none 0 0):=(blk_cell BK350.out 3).trans rfl
         have hfz64_0:=blk_frozen BK350.out 0
         have hfz64_1:=blk_frozen BK350.out 1
         have hfz64_2:=blk_frozen BK350.out 2
         have hfz64_3:=blk_frozen BK350.out 3
         have hnb65:=NB320_332.out
         have hnc65:=NB332_320.out
         have hcz66_0:w47.cell? ⟨gb320,0,none⟩=some (.int .i64 t309):=(blk_cell BK320.out 0).trans rfl
         have hcz66_1:w47.cell? ⟨gb320,1,none⟩=some (.slice Ao9 t310.length co9):=(blk_cell BK320.out 1).trans rfl
         have hcz66_2:w47.cell? ⟨gb320,2,none⟩=some (.slice Ao10 t313.length co10):=(blk_cell BK320.out 2).trans rfl
         have hcz66_3:w47.cell? ⟨gb320,3,none⟩=some (.slice Ao11 t316.length co11):=(blk_cell BK320.out 3).trans rfl
         have hfz66_0:=blk_frozen BK320.out 0
         have hfz66_1:=blk_frozen BK320.out 1
         have hfz66_2:=blk_frozen BK320.out 2
         have hfz66_3:=blk_frozen BK320.out 3
         go_wp2_with (first|((with_reducible refine gate_callee (f:=8) rfl ?_);refine goesL_ (some 51) rfl rfl Tryz.func8 (by kernel_rfl) rfl #[.agg #[.int .i64 t339,.slice Ao51 t340.length co51,.slice Ao52 t343.length co52,.slice Ao53 t346.length co53],.agg #[.int .i64 t309,.slice Ao9 t310.length co9,.slice Ao10 t313.length co10,.slice Ao11 t316.length co11]] rfl qz2 ?_;(with_reducible refine (laws_eqPrgGoal.calls kj4 t339 _ _ t340 _ _ t343 _ _ t346 t309 _ _ t310 _ _ t313 _ _ t316 false _ ?side1 ?side2 ?side3 ?side4 ?side5 ?side6 ?side7 ?side8 ?side9 ?side10 ?side11 ?side12 A54.out).mono ?_);(case side1=>exact qz93);(case side2=>exact (Kd.R_reads' HO342.out).2.1);(case side3=>exact qz94);(case side4=>exact (Kd.R_reads' HO345.out).2.1);(case side5=>exact qz95);(case side6=>exact (Kd.R_reads' HO348.out).2.1);(case side7=>exact qz90);(case side8=>exact (Kd.R_reads' HO_321001.out).2.1);(case side9=>exact qz91);(case side10=>exact (Kd.R_reads' HO_321002.out).2.1);(case side11=>exact qz92);(case side12=>exact (Kd.R_reads' HO_321003.out).2.1);rintro e w67 ⟨rfl,hb⟩;refine ⟨_,rfl,?_⟩;have n0_:=Aside0.mk (Kd.R_below qz38 hb);have n1_:=Aside0.mk (Kd.R_below qz37 hb);have n2_:=Aside0.mk (Kd.R_below qz36 hb);have n3_:=Aside0.mk (Kd.R_below qz106 hb);have n4_:=Aside0.mk (Kd.R_below qz105 hb);have n5_:=Aside0.mk (Kd.R_below qz104 hb);have n6_:=Aside0.mk (Kd.R_below qz41 hb);have n7_:=Aside0.mk (Kd.R_below qz40 hb);have n8_:=Aside0.mk (Kd.R_below qz39 hb);have n9_:=Aside0.mk (blk_below (g:=gb320) (o:=.cells #[.int .i64 t309,.slice Ao9 t310.length co9,.slice Ao10 t313.length co10,.slice Ao11 t316.length co11] 24 (0,0)) qz86 hb);have n10_:=Aside0.mk (blk_below (g:=gb332) (o:=.cells #[.int .i64 t321,.slice Ao16 t322.length co16,.slice Ao17 t325.length co17,.slice Ao18 t328.length co18] 24 (0,0)) qz85 hb);have n11_:=Aside0.mk (blk_below (g:=gb350) (o:=.cells #[.int .i64 t339,.slice Ao51 t340.length co51,.slice Ao52 t343.length co52,.slice Ao53 t346.length co53] 24 (0,0)) qz65 hb);have n12_:=Aside0.mk (below_step qz15 hb);clear HO_321001 HO_321002 HO_321003 HO_333001 HO_333002 HO_333003 HO342 HO345 HO348 BK320 BK332 BK350 HB;have HO_321001:=n0_;have HO_321002:=n1_;have HO_321003:=n2_;have HO_333001:=n3_;have HO_333002:=n4_;have HO_333003:=n5_;have HO342:=n6_;have HO345:=n7_;have HO348:=n8_;have BK320:=n9_;have BK332:=n10_;have BK350:=n11_;have HB:=n12_;clear n0_ n1_ n2_ n3_ n4_ n5_ n6_ n7_ n8_ n9_ n10_ n11_ n12_;(try clear hb);(try clear hb2);(try clear hk);(try clear hi)))
         go_meet
         case rel=>exact ⟨_,(true),qz9,H',⟨by have:=HJ4.out;first|omega|exact Nat.le_refl _⟩,⟨qz141⟩,⟨qz140⟩,⟨qz139⟩,⟨qz138⟩,⟨qz137⟩,⟨qz136⟩,⟨qz144⟩,⟨qz143⟩,⟨qz142⟩,⟨qz26⟩,⟨qz30⟩,⟨qz113⟩,⟨qz15⟩⟩
       case rest=>
        clear HC40
        try clear c1
        try clear c2
        try clear c2b0
        try clear c2b1
        try clear p2
        try clear c3
        try clear c4
        try clear c5
        try clear c6
        try clear c7
        try clear c8
        try clear c9
        try clear c10
        try clear c14
        try clear c20
        try clear c21
        try clear c25
        try clear c29
        try clear c32
        try clear c32b0
        try clear c33
        try clear c38
        try clear c38b0
        try clear c38b1
        try clear c41
        try clear c48
        try clear c49
        try clear c55
        try clear c56
        try clear c57
        try clear c59
        try clear c62
        try clear c63
        try clear c65
        try clear hcz15_0
        try clear hcz15_1
        try clear hcz15_2
        try clear hcz15_3
        try clear hcz22_0
        try clear hcz22_1
        try clear hcz22_2
        try clear hcz22_3
        try clear hcz23_0
        try clear hcz23_1
        try clear hcz23_2
        try clear hcz23_3
        try clear hcz26_0
        try clear hcz26_1
        try clear hcz26_2
        try clear hcz26_3
        try clear hcz27_0
        try clear hcz27_1
        try clear hcz27_2
        try clear hcz27_3
        try clear hcz34_0
        try clear hcz34_1
        try clear hcz34_2
        try clear hcz34_3
        try clear hcz36_0
        try clear hcz36_1
        try clear hcz36_2
        try clear hcz36_3
        try clear hcz42_0
        try clear hcz42_1
        try clear hcz42_2
        try clear hcz42_3
        try clear hcz44_0
        try clear hcz44_1
        try clear hcz44_2
        try clear hcz44_3
        try clear hcz50_0
        try clear hcz50_1
        try clear hcz50_2
        try clear hcz50_3
        try clear hcz58_0
        try clear hcz58_1
        try clear hcz58_2
        try clear hcz58_3
        try clear hcz60_0
        try clear hcz60_1
        try clear hcz60_2
        try clear hcz60_3
        try clear hcz64_0
        try clear hcz64_1
        try clear hcz64_2
        try clear hcz64_3
        try clear hcz66_0
        try clear hcz66_1
        try clear hcz66_2
        try clear hcz66_3
        try clear hcz8_0
        try clear hcz8_1
        try clear hcz8_2
        try clear hcz8_3
        try clear hfz15_0
        try clear hfz15_1
        try clear hfz15_2
        try clear hfz15_3
        try clear hfz22_0
        try clear hfz22_1
        try clear hfz22_2
        try clear hfz22_3
        try clear hfz23_0
        try clear hfz23_1
        try clear hfz23_2
        try clear hfz23_3
        try clear hfz26_0
        try clear hfz26_1
        try clear hfz26_2
        try clear hfz26_3
        try clear hfz27_0
        try clear hfz27_1
        try clear hfz27_2
        try clear hfz27_3
        try clear hfz34_0
        try clear hfz34_1
        try clear hfz34_2
        try clear hfz34_3
        try clear hfz36_0
        try clear hfz36_1
        try clear hfz36_2
        try clear hfz36_3
        try clear hfz42_0
        try clear hfz42_1
        try clear hfz42_2
        try clear hfz42_3
        try clear hfz44_0
        try clear hfz44_1
        try clear hfz44_2
        try clear hfz44_3
        try clear hfz50_0
        try clear hfz50_1
        try clear hfz50_2
        try clear hfz50_3
        try clear hfz58_0
        try clear hfz58_1
        try clear hfz58_2
        try clear hfz58_3
        try clear hfz60_0
        try clear hfz60_1
        try clear hfz60_2
        try clear hfz60_3
        try clear hfz64_0
        try clear hfz64_1
        try clear hfz64_2
        try clear hfz64_3
        try clear hfz66_0
        try clear hfz66_1
        try clear hfz66_2
        try clear hfz66_3
        try clear hfz8_0
        try clear hfz8_1
        try clear hfz8_2
        try clear hfz8_3
        try clear p2
        obtain ⟨kq,x57_39,rfl,HA,HJ39,HO_321001,HO_321002,HO_321003,HO_333001,HO_333002,HO_333003,HO_351001,HO_351002,HO_351003,BK320,BK332,BK350,HB⟩:=hcut
        have hl333001_39:=(Kd.R_reads' HO_333001.out).1
        rw [hl333001_39] at HO_333001
        (try simp only [hl333001_39])
        (try simp only [hl333001_39] at BK320)
        (try simp only [hl333001_39] at BK332)
        (try simp only [hl333001_39] at BK350)
        (try simp only [hl333001_39] at HO_321001)
        (try simp only [hl333001_39] at HO_321002)
        (try simp only [hl333001_39] at HO_321003)
        (try simp only [hl333001_39] at HO_333002)
        (try simp only [hl333001_39] at HO_333003)
        (try simp only [hl333001_39] at HO_351001)
        (try simp only [hl333001_39] at HO_351002)
        (try simp only [hl333001_39] at HO_351003)
        have hl333002_39:=(Kd.R_reads' HO_333002.out).1
        rw [hl333002_39] at HO_333002
        (try simp only [hl333002_39])
        (try simp only [hl333002_39] at BK320)
        (try simp only [hl333002_39] at BK332)
        (try simp only [hl333002_39] at BK350)
        (try simp only [hl333002_39] at HO_321001)
        (try simp only [hl333002_39] at HO_321002)
        (try simp only [hl333002_39] at HO_321003)
        (try simp only [hl333002_39] at HO_333001)
        (try simp only [hl333002_39] at HO_333003)
        (try simp only [hl333002_39] at HO_351001)
        (try simp only [hl333002_39] at HO_351002)
        (try simp only [hl333002_39] at HO_351003)
        have hl333003_39:=(Kd.R_reads' HO_333003.out).1
        rw [hl333003_39] at HO_333003
        (try simp only [hl333003_39])
        (try simp only [hl333003_39] at BK320)
        (try simp only [hl333003_39] at BK332)
        (try simp only [hl333003_39] at BK350)
        (try simp only [hl333003_39] at HO_321001)
        (try simp only [hl333003_39] at HO_321002)
        (try simp only [hl333003_39] at HO_321003)
        (try simp only [hl333003_39] at HO_333001)
        (try simp only [hl333003_39] at HO_333002)
        (try simp only [hl333003_39] at HO_351001)
        (try simp only [hl333003_39] at HO_351002)
        (try simp only [hl333003_39] at HO_351003)
        cases kq with
        | zero=>exact absurd HA.out (by simp [laws_FnExactGoalRead.j1])
        | succ kj39=>
         have H:=HA.out
         clear HA
         simp only [laws_FnExactGoalRead.j1] at H
         by_cases c68:x57_39=true
         ·subst c68
          have H1:(some false)=some r:=qz57
          clear H
          have H:=H1
          clear H1
          obtain rfl:=Option.some.inj H
          go_wp2
          go_ret
          exact ⟨qz4,qz15⟩
         ·replace c68:=Bool.eq_false_iff.mpr c68
          subst c68
          have H1:((laws_heldPrgGoal.f kj39 t321 t335 t336 t337 1).bind fun t352=>(if t352<0 then (some false) else (if t352=t334 then (some true) else (some false))))=some r:=qz23
          clear H
          have H:=H1
          clear H1
          replace H:=Option.bind_eq_some_iff.mp H
          obtain ⟨t352,A690,H⟩:=H
          try dsimp only at H
          have A69:=Aside0.mk A690
          clear A690
          by_cases c70:t352<0
          ·rw [if_pos c70] at H
           have c70b0:decide (t352<0)=true:=decide_eq_true c70
           clear c70
           obtain rfl:=Option.some.inj H
           have hnb71:=NB332_320.out
           have hnc71:=NB320_332.out
           have hnb72:=NB332_350.out
           have hnc72:=NB350_332.out
           have hcz73_0:wc.cell? ⟨gb332,0,none⟩=some (.int .i64 t321):=(blk_cell BK332.out 0).trans rfl
           have hcz73_1:wc.cell? ⟨gb332,1,none⟩=some (.slice Ao16 t335.length co16):=(blk_cell BK332.out 1).trans rfl
           have hcz73_2:wc.cell? ⟨gb332,2,none⟩=some (.slice Ao17 t336.length co17):=(blk_cell BK332.out 2).trans rfl
           have hcz73_3:wc.cell? ⟨gb332,3,none⟩=some (.slice Ao18 t337.length co18):=(blk_cell BK332.out 3).trans rfl
           have hfz73_0:=blk_frozen BK332.out 0
           have hfz73_1:=blk_frozen BK332.out 1
           have hfz73_2:=blk_frozen BK332.out 2
           have hfz73_3:=blk_frozen BK332.out 3
           go_wp2_with (first|((with_reducible refine gate_callee (f:=10) rfl ?_);refine goesL_ (some 60) rfl rfl Tryz.func10 (by kernel_rfl) rfl #[.agg #[.int .i64 t321,.slice Ao16 t335.length co16,.slice Ao17 t336.length co17,.slice Ao18 t337.length co18],.int .i64 1] rfl qz2 ?_;(with_reducible refine (laws_heldPrgGoal.calls kj39 t321 _ _ t335 _ _ t336 _ _ t337 1 t352 _ ?side1 ?side2 ?side3 ?side4 ?side5 ?side6 A69.out).mono ?_);(case side1=>exact qz79);(case side2=>exact (Kd.R_reads' HO_333001.out).2.1);(case side3=>exact qz78);(case side4=>exact (Kd.R_reads' HO_333002.out).2.1);(case side5=>exact qz77);(case side6=>exact (Kd.R_reads' HO_333003.out).2.1);rintro e w74 ⟨rfl,hb⟩;refine ⟨_,rfl,?_⟩;have n0_:=Aside0.mk (Kd.R_below qz63 hb);have n1_:=Aside0.mk (Kd.R_below qz62 hb);have n2_:=Aside0.mk (Kd.R_below qz61 hb);have n3_:=Aside0.mk (Kd.R_below qz60 hb);have n4_:=Aside0.mk (Kd.R_below qz59 hb);have n5_:=Aside0.mk (Kd.R_below qz58 hb);have n6_:=Aside0.mk (Kd.R_below qz163 hb);have n7_:=Aside0.mk (Kd.R_below qz162 hb);have n8_:=Aside0.mk (Kd.R_below qz161 hb);have n9_:=Aside0.mk (blk_below (g:=gb320) (o:=.cells #[.int .i64 t309,.slice Ao9 t310.length co9,.slice Ao10 t313.length co10,.slice Ao11 t316.length co11] 24 (0,0)) qz26 hb);have n10_:=Aside0.mk (blk_below (g:=gb332) (o:=.cells #[.int .i64 t321,.slice Ao16 t335.length co16,.slice Ao17 t336.length co17,.slice Ao18 t337.length co18] 24 (0,0)) qz30 hb);have n11_:=Aside0.mk (blk_below (g:=gb350) (o:=.cells #[.int .i64 t339,.slice Ao51 t340.length co51,.slice Ao52 t343.length co52,.slice Ao53 t346.length co53] 24 (0,0)) qz113 hb);have n12_:=Aside0.mk (below_step qz15 hb);clear HO_321001 HO_321002 HO_321003 HO_333001 HO_333002 HO_333003 HO_351001 HO_351002 HO_351003 BK320 BK332 BK350 HB;have HO_321001:=n0_;have HO_321002:=n1_;have HO_321003:=n2_;have HO_333001:=n3_;have HO_333002:=n4_;have HO_333003:=n5_;have HO_351001:=n6_;have HO_351002:=n7_;have HO_351003:=n8_;have BK320:=n9_;have BK332:=n10_;have BK350:=n11_;have HB:=n12_;clear n0_ n1_ n2_ n3_ n4_ n5_ n6_ n7_ n8_ n9_ n10_ n11_ n12_;(try clear hb);(try clear hb2);(try clear hk);(try clear hi)))
           go_ret
           exact ⟨qz4,qz15⟩
          ·rw [if_neg c70] at H
           have c70b0:decide (t352<0)=false:=decide_eq_false c70
           clear c70
           by_cases c75:t352=t334
           ·rw [if_pos c75] at H
            have c75b0:(t352 == t334)=true:=beq_iff_eq.mpr c75
            have c75b1:(t352 != t334)=false:=bne_eq_false_iff_eq.mpr c75
            clear c75
            obtain rfl:=Option.some.inj H
            have hnb76:=NB332_320.out
            have hnc76:=NB320_332.out
            have hnb77:=NB332_350.out
            have hnc77:=NB350_332.out
            have hcz78_0:wc.cell? ⟨gb332,0,none⟩=some (.int .i64 t321):=(blk_cell BK332.out 0).trans rfl
            have hcz78_1:wc.cell? ⟨gb332,1,none⟩=some (.slice Ao16 t335.length co16):=(blk_cell BK332.out 1).trans rfl
            have hcz78_2:wc.cell? ⟨gb332,2,none⟩=some (.slice Ao17 t336.length co17):=(blk_cell BK332.out 2).trans rfl
            have hcz78_3:wc.cell? ⟨gb332,3,none⟩=some (.slice Ao18 t337.length co18):=(blk_cell BK332.out 3).trans rfl
            have hfz78_0:=blk_frozen BK332.out 0
            have hfz78_1:=blk_frozen BK332.out 1
            have hfz78_2:=blk_frozen BK332.out 2
            have hfz78_3:=blk_frozen BK332.out 3
            go_wp2_with (first|((with_reducible refine gate_callee (f:=10) rfl ?_);refine goesL_ (some 60) rfl rfl Tryz.func10 (by kernel_rfl) rfl #[.agg #[.int .i64 t321,.slice Ao16 t335.length co16,.slice Ao17 t336.length co17,.slice Ao18 t337.length co18],.int .i64 1] rfl qz2 ?_;(with_reducible refine (laws_heldPrgGoal.calls kj39 t321 _ _ t335 _ _ t336 _ _ t337 1 t352 _ ?side1 ?side2 ?side3 ?side4 ?side5 ?side6 A69.out).mono ?_);(case side1=>exact qz79);(case side2=>exact (Kd.R_reads' HO_333001.out).2.1);(case side3=>exact qz78);(case side4=>exact (Kd.R_reads' HO_333002.out).2.1);(case side5=>exact qz77);(case side6=>exact (Kd.R_reads' HO_333003.out).2.1);rintro e w79 ⟨rfl,hb⟩;refine ⟨_,rfl,?_⟩;have n0_:=Aside0.mk (Kd.R_below qz63 hb);have n1_:=Aside0.mk (Kd.R_below qz62 hb);have n2_:=Aside0.mk (Kd.R_below qz61 hb);have n3_:=Aside0.mk (Kd.R_below qz60 hb);have n4_:=Aside0.mk (Kd.R_below qz59 hb);have n5_:=Aside0.mk (Kd.R_below qz58 hb);have n6_:=Aside0.mk (Kd.R_below qz163 hb);have n7_:=Aside0.mk (Kd.R_below qz162 hb);have n8_:=Aside0.mk (Kd.R_below qz161 hb);have n9_:=Aside0.mk (blk_below (g:=gb320) (o:=.cells #[.int .i64 t309,.slice Ao9 t310.length co9,.slice Ao10 t313.length co10,.slice Ao11 t316.length co11] 24 (0,0)) qz26 hb);have n10_:=Aside0.mk (blk_below (g:=gb332) (o:=.cells #[.int .i64 t321,.slice Ao16 t335.length co16,.slice Ao17 t336.length co17,.slice Ao18 t337.length co18] 24 (0,0)) qz30 hb);have n11_:=Aside0.mk (blk_below (g:=gb350) (o:=.cells #[.int .i64 t339,.slice Ao51 t340.length co51,.slice Ao52 t343.length co52,.slice Ao53 t346.length co53] 24 (0,0)) qz113 hb);have n12_:=Aside0.mk (below_step qz15 hb);clear HO_321001 HO_321002 HO_321003 HO_333001 HO_333002 HO_333003 HO_351001 HO_351002 HO_351003 BK320 BK332 BK350 HB;have HO_321001:=n0_;have HO_321002:=n1_;have HO_321003:=n2_;have HO_333001:=n3_;have HO_333002:=n4_;have HO_333003:=n5_;have HO_351001:=n6_;have HO_351002:=n7_;have HO_351003:=n8_;have BK320:=n9_;have BK332:=n10_;have BK350:=n11_;have HB:=n12_;clear n0_ n1_ n2_ n3_ n4_ n5_ n6_ n7_ n8_ n9_ n10_ n11_ n12_;(try clear hb);(try clear hb2);(try clear hk);(try clear hi)))
            go_ret
            exact ⟨qz4,qz15⟩
           ·rw [if_neg c75] at H
            have c75b0:(t352 == t334)=false:=beq_eq_false_iff_ne.mpr c75
            have c75b1:(t352 != t334)=true:=bne_iff_ne.mpr c75
            obtain rfl:=Option.some.inj H
            have hnb80:=NB332_320.out
            have hnc80:=NB320_332.out
            have hnb81:=NB332_350.out
            have hnc81:=NB350_332.out
            have hcz82_0:wc.cell? ⟨gb332,0,none⟩=some (.int .i64 t321):=(blk_cell BK332.out 0).trans rfl
            have hcz82_1:wc.cell? ⟨gb332,1,none⟩=some (.slice Ao16 t335.length co16):=(blk_cell BK332.out 1).trans rfl
            have hcz82_2:wc.cell? ⟨gb332,2,none⟩=some (.slice Ao17 t336.length co17):=(blk_cell BK332.out 2).trans rfl
            have hcz82_3:wc.cell? ⟨gb332,3,none⟩=some (.slice Ao18 t337.length co18):=(blk_cell BK332.out 3).trans rfl
            have hfz82_0:=blk_frozen BK332.out 0
            have hfz82_1:=blk_frozen BK332.out 1
            have hfz82_2:=blk_frozen BK332.out 2
            have hfz82_3:=blk_frozen BK332.out 3
            go_wp2_with (first|((with_reducible refine gate_callee (f:=10) rfl ?_);refine goesL_ (some 60) rfl rfl Tryz.func10 (by kernel_rfl) rfl #[.agg #[.int .i64 t321,.slice Ao16 t335.length co16,.slice Ao17 t336.length co17,.slice Ao18 t337.length co18],.int .i64 1] rfl qz2 ?_;(with_reducible refine (laws_heldPrgGoal.calls kj39 t321 _ _ t335 _ _ t336 _ _ t337 1 t352 _ ?side1 ?side2 ?side3 ?side4 ?side5 ?side6 A69.out).mono ?_);(case side1=>exact qz79);(case side2=>exact (Kd.R_reads' HO_333001.out).2.1);(case side3=>exact qz78);(case side4=>exact (Kd.R_reads' HO_333002.out).2.1);(case side5=>exact qz77);(case side6=>exact (Kd.R_reads' HO_333003.out).2.1);rintro e w83 ⟨rfl,hb⟩;refine ⟨_,rfl,?_⟩;have n0_:=Aside0.mk (Kd.R_below qz63 hb);have n1_:=Aside0.mk (Kd.R_below qz62 hb);have n2_:=Aside0.mk (Kd.R_below qz61 hb);have n3_:=Aside0.mk (Kd.R_below qz60 hb);have n4_:=Aside0.mk (Kd.R_below qz59 hb);have n5_:=Aside0.mk (Kd.R_below qz58 hb);have n6_:=Aside0.mk (Kd.R_below qz163 hb);have n7_:=Aside0.mk (Kd.R_below qz162 hb);have n8_:=Aside0.mk (Kd.R_below qz161 hb);have n9_:=Aside0.mk (blk_below (g:=gb320) (o:=.cells #[.int .i64 t309,.slice Ao9 t310.length co9,.slice Ao10 t313.length co10,.slice Ao11 t316.length co11] 24 (0,0)) qz26 hb);have n10_:=Aside0.mk (blk_below (g:=gb332) (o:=.cells #[.int .i64 t321,.slice Ao16 t335.length co16,.slice Ao17 t336.length co17,.slice Ao18 t337.length co18] 24 (0,0)) qz30 hb);have n11_:=Aside0.mk (blk_below (g:=gb350) (o:=.cells #[.int .i64 t339,.slice Ao51 t340.length co51,.slice Ao52 t343.length co52,.slice Ao53 t346.length co53] 24 (0,0)) qz113 hb);have n12_:=Aside0.mk (below_step qz15 hb);clear HO_321001 HO_321002 HO_321003 HO_333001 HO_333002 HO_333003 HO_351001 HO_351002 HO_351003 BK320 BK332 BK350 HB;have HO_321001:=n0_;have HO_321002:=n1_;have HO_321003:=n2_;have HO_333001:=n3_;have HO_333002:=n4_;have HO_333003:=n5_;have HO_351001:=n6_;have HO_351002:=n7_;have HO_351003:=n8_;have BK320:=n9_;have BK332:=n10_;have BK350:=n11_;have HB:=n12_;clear n0_ n1_ n2_ n3_ n4_ n5_ n6_ n7_ n8_ n9_ n10_ n11_ n12_;(try clear hb);(try clear hb2);(try clear hk);(try clear hi)))
            go_ret
            exact ⟨qz4,qz15⟩
      ·rw [if_neg c38] at H
       have c38b0:(t338 == t334)=false:=beq_eq_false_iff_ne.mpr c38
       have c38b1:(t338 != t334)=true:=bne_iff_ne.mpr c38
       obtain rfl:=Option.some.inj H
       have hnb84:=NB332_320.out
       have hnc84:=NB320_332.out
       have hcz85_0:wc.cell? ⟨gb332,0,none⟩=some (.int .i64 t321):=(blk_cell BK332.out 0).trans rfl
       have hcz85_1:wc.cell? ⟨gb332,1,none⟩=some (.slice Ao16 t322.length co16):=(blk_cell BK332.out 1).trans rfl
       have hcz85_2:wc.cell? ⟨gb332,2,none⟩=some (.slice Ao17 t325.length co17):=(blk_cell BK332.out 2).trans rfl
       have hcz85_3:wc.cell? ⟨gb332,3,none⟩=some (.slice Ao18 t328.length co18):=(blk_cell BK332.out 3).trans rfl
       have hfz85_0:=blk_frozen BK332.out 0
       have hfz85_1:=blk_frozen BK332.out 1
       have hfz85_2:=blk_frozen BK332.out 2
       have hfz85_3:=blk_frozen BK332.out 3
       go_wp2_with (first|((with_reducible refine gate_callee (f:=9) rfl ?_);refine goesL_ (some 35) rfl rfl Tryz.func9 (by kernel_rfl) rfl #[.agg #[.int .i64 t321,.slice Ao16 t322.length co16,.slice Ao17 t325.length co17,.slice Ao18 t328.length co18],.int .i64 1] rfl qz2 ?_;(with_reducible refine (laws_markPrgGoal.calls kj4 t321 (fun k_=>some k_=(.slice Ao16 t322.length co16:Value).ownBlock) (.slice Ao16 t322.length co16) t322 (fun k_=>some k_=(.slice Ao17 t325.length co17:Value).ownBlock) (.slice Ao17 t325.length co17) t325 (fun k_=>some k_=(.slice Ao18 t328.length co18:Value).ownBlock) (.slice Ao18 t328.length co18) t328 1 t334 t335 t336 t337 w _ ?side1 ?side2 ?side3 ?side4 ?side5 ?side6 ?side7 ?side8 ?side9 ?side10 A30.out).mono ?_);(case side1=>exact qz14);(case side2=>exact Kd.R_tight rfl HO_333001.out);(case side3=>exact fun k_ e_=>(HO_333001.out.1 k_ e_.symm).2.2.2.1);(case side4=>exact fun k_ e_=>(HO_333001.out.1 k_ e_.symm).2.2.2.2);(case side5=>exact Kd.R_tight rfl HO_333002.out);(case side6=>exact fun k_ e_=>(HO_333002.out.1 k_ e_.symm).2.2.2.1);(case side7=>exact fun k_ e_=>(HO_333002.out.1 k_ e_.symm).2.2.2.2);(case side8=>exact Kd.R_tight rfl HO_333003.out);(case side9=>exact fun k_ e_=>(HO_333003.out.1 k_ e_.symm).2.2.2.1);(case side10=>exact fun k_ e_=>(HO_333003.out.1 k_ e_.symm).2.2.2.2);rintro e w86 ⟨rfl,hy0,hy1,hy2,hb,hkp⟩;refine ⟨_,rfl,?_⟩;have n0_:=Aside0.mk (Kd.R_mono (ok':=fun k_=>some k_≠(.slice Ao10 t313.length co10:Value).ownBlock∧some k_≠(.slice Ao11 t316.length co11:Value).ownBlock∧some k_≠(.slice Ao16 t322.length co16:Value).ownBlock∧some k_≠(.slice Ao17 t325.length co17:Value).ownBlock∧some k_≠(.slice Ao18 t328.length co18:Value).ownBlock) (Kd.R_keptB (HO_321001.out) hkp (fun k_ hk_ hs_=>Or.elim hs_ (fun e_=>(hk_.2.2.1) e_) (fun e_=>Or.elim e_ (fun e_=>(hk_.2.2.2.1) e_) (fun e_=>(hk_.2.2.2.2) e_)))) (fun k_ hk_=>⟨hk_.1.1,hk_.1.2.1,hk_.1.2.2.1,hk_.1.2.2.2.1,hk_.1.2.2.2.2⟩));have n1_:=Aside0.mk (Kd.R_mono (ok':=fun k_=>some k_≠(.slice Ao9 t310.length co9:Value).ownBlock∧some k_≠(.slice Ao11 t316.length co11:Value).ownBlock∧some k_≠(.slice Ao16 t322.length co16:Value).ownBlock∧some k_≠(.slice Ao17 t325.length co17:Value).ownBlock∧some k_≠(.slice Ao18 t328.length co18:Value).ownBlock) (Kd.R_keptB (HO_321002.out) hkp (fun k_ hk_ hs_=>Or.elim hs_ (fun e_=>(hk_.2.2.1) e_) (fun e_=>Or.elim e_ (fun e_=>(hk_.2.2.2.1) e_) (fun e_=>(hk_.2.2.2.2) e_)))) (fun k_ hk_=>⟨hk_.1.1,hk_.1.2.1,hk_.1.2.2.1,hk_.1.2.2.2.1,hk_.1.2.2.2.2⟩));have n2_:=Aside0.mk (Kd.R_mono (ok':=fun k_=>some k_≠(.slice Ao9 t310.length co9:Value).ownBlock∧some k_≠(.slice Ao10 t313.length co10:Value).ownBlock∧some k_≠(.slice Ao16 t322.length co16:Value).ownBlock∧some k_≠(.slice Ao17 t325.length co17:Value).ownBlock∧some k_≠(.slice Ao18 t328.length co18:Value).ownBlock) (Kd.R_keptB (HO_321003.out) hkp (fun k_ hk_ hs_=>Or.elim hs_ (fun e_=>(hk_.2.2.1) e_) (fun e_=>Or.elim e_ (fun e_=>(hk_.2.2.2.1) e_) (fun e_=>(hk_.2.2.2.2) e_)))) (fun k_ hk_=>⟨hk_.1.1,hk_.1.2.1,hk_.1.2.2.1,hk_.1.2.2.2.1,hk_.1.2.2.2.2⟩));have n3_:=Aside0.mk (Kd.R_reok rfl hy0 (fun k_ e_=>HO_333001.out.1 k_ e_));have n4_:=Aside0.mk (Kd.R_reok rfl hy1 (fun k_ e_=>HO_333002.out.1 k_ e_));have n5_:=Aside0.mk (Kd.R_reok rfl hy2 (fun k_ e_=>HO_333003.out.1 k_ e_));have n6_:=Aside0.mk (blk_kept qz26 hkp (fun hs_=>Or.elim hs_ (fun e_=>(fun e_=>absurd e_ qz160) e_) (fun e_=>Or.elim e_ (fun e_=>(fun e_=>absurd e_ qz158) e_) (fun e_=>(fun e_=>absurd e_ qz156) e_))));have n7_:=Aside0.mk (blk_kept qz30 hkp (fun hs_=>Or.elim hs_ (fun e_=>(fun e_=>absurd e_ qz159) e_) (fun e_=>Or.elim e_ (fun e_=>(fun e_=>absurd e_ qz157) e_) (fun e_=>(fun e_=>absurd e_ qz155) e_))));have n8_:=Aside0.mk (hb);clear HO_321001 HO_321002 HO_321003 HO_333001 HO_333002 HO_333003 BK320 BK332 HB;have HO_321001:=n0_;have HO_321002:=n1_;have HO_321003:=n2_;have HO_333001:=n3_;have HO_333002:=n4_;have HO_333003:=n5_;have BK320:=n6_;have BK332:=n7_;have HB:=n8_;clear n0_ n1_ n2_ n3_ n4_ n5_ n6_ n7_ n8_;(try clear hb);(try clear hkp);(try clear hy0);(try clear hy1);(try clear hy2);have hcz87_0:w86.cell? ⟨gb332,0,none⟩=some (.int .i64 t321):=(blk_cell BK332.out 0).trans rfl;have hcz87_1:w86.cell? ⟨gb332,1,none⟩=some (.slice Ao16 t322.length co16):=(blk_cell BK332.out 1).trans rfl;have hcz87_2:w86.cell? ⟨gb332,2,none⟩=some (.slice Ao17 t325.length co17):=(blk_cell BK332.out 2).trans rfl;have hcz87_3:w86.cell? ⟨gb332,3,none⟩=some (.slice Ao18 t328.length co18):=(blk_cell BK332.out 3).trans rfl;have hfz87_0:=blk_frozen BK332.out 0;have hfz87_1:=blk_frozen BK332.out 1;have hfz87_2:=blk_frozen BK332.out 2;have hfz87_3:=blk_frozen BK332.out 3)|((with_reducible refine gate_callee (f:=10) rfl ?_);refine goesL_ (some 38) rfl rfl Tryz.func10 (by kernel_rfl) rfl #[.agg #[.int .i64 t321,.slice Ao16 t335.length co16,.slice Ao17 t336.length co17,.slice Ao18 t337.length co18],.int .i64 1] rfl qz81 ?_;(with_reducible refine (laws_heldPrgGoal.calls kj4 t321 _ _ t335 _ _ t336 _ _ t337 1 t338 _ ?side1 ?side2 ?side3 ?side4 ?side5 ?side6 A31.out).mono ?_);(case side1=>exact qz79);(case side2=>exact qz154);(case side3=>exact qz78);(case side4=>exact qz153);(case side5=>exact qz77);(case side6=>exact qz152);rintro e w88 ⟨rfl,hb⟩;refine ⟨_,rfl,?_⟩;have n0_:=Aside0.mk (Kd.R_below qz63 hb);have n1_:=Aside0.mk (Kd.R_below qz62 hb);have n2_:=Aside0.mk (Kd.R_below qz61 hb);have n3_:=Aside0.mk (Kd.R_below qz60 hb);have n4_:=Aside0.mk (Kd.R_below qz59 hb);have n5_:=Aside0.mk (Kd.R_below qz58 hb);have n6_:=Aside0.mk (blk_below (g:=gb320) (o:=.cells #[.int .i64 t309,.slice Ao9 t310.length co9,.slice Ao10 t313.length co10,.slice Ao11 t316.length co11] 24 (0,0)) qz26 hb);have n7_:=Aside0.mk (blk_below (g:=gb332) (o:=.cells #[.int .i64 t321,.slice Ao16 t322.length co16,.slice Ao17 t325.length co17,.slice Ao18 t328.length co18] 24 (0,0)) qz30 hb);have n8_:=Aside0.mk (below_step qz14 hb);clear HO_321001 HO_321002 HO_321003 HO_333001 HO_333002 HO_333003 BK320 BK332 HB;have HO_321001:=n0_;have HO_321002:=n1_;have HO_321003:=n2_;have HO_333001:=n3_;have HO_333002:=n4_;have HO_333003:=n5_;have BK320:=n6_;have BK332:=n7_;have HB:=n8_;clear n0_ n1_ n2_ n3_ n4_ n5_ n6_ n7_ n8_;(try clear hb);(try clear hb2);(try clear hk);(try clear hi)))
       go_ret
       exact ⟨qz4,qz14⟩

end Go.Proofs.YtlhniagacegbeaaGreatDoor.P
