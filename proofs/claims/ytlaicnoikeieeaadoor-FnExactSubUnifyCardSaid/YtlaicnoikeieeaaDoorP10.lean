/- Contracts of functions of the program: each as a Lean function, and that its call does what that says; printed by cprint.py (this session) over print.py of the kit. Conditions: the hypotheses of each theorem. -/
import Derived.Test.YtlaicnoikeieeaaDoorVZ
import Derived.Test.YtlaicnoikeieeaaDoorP0
import Derived.Test.YtlaicnoikeieeaaDoorP8
namespace Go.Proofs.YtlaicnoikeieeaaDoor.P
open Go.RowKit Go.Proofs.YtlaicnoikeieeaaDoorW.PrintWords Go.Proofs.YtlaicnoikeieeaaDoorW.PrintLast Go.Proofs.YtlaicnoikeieeaaDoorW.PrintMore
attribute [local go_sem] max2_int min2_int max_two min_two max_three min_three max_four min_four   -- for this text's walks alone
set_option linter.unusedVariables false
set_option linter.unusedSimpArgs false

/-! ### spec_l2Full: function 73 -/
mutual
def spec_l2Full.l0:Nat→List (S30)→List (S46)→List (S46)→Option ((List (S46)) × Bool)
 | 0,_,_,_=>none
 | k+1,x0,x6,x7=>if (x7.length:Int) > 0 then (if 0<(x7.length:Int) then (if 1≤(x7.length:Int) then ((some (x7.drop (1:Int).toNat:List (S46))).bind fun y264=>(if ((rd_T46 x7 0).f0)=1 then ((spec_l2Get.f k x0 ((rd_T46 x7 0).f1)).bind fun t270=>(spec_l2Full.j1 k x0 x6 y264 t270 ((rd_T46 x7 0).f0) ((rd_T46 x7 0).f1) ((rd_T46 x7 0).f2))) else (spec_l2Full.j1 k x0 x6 y264 (([]:List (S46))) ((rd_T46 x7 0).f0) ((rd_T46 x7 0).f1) ((rd_T46 x7 0).f2)))) else (none)) else (none)) else (some (x6,true))
def spec_l2Full.j1:Nat→List (S30)→List (S46)→List (S46)→List (S46)→Int→Int→ByteArray→Option ((List (S46)) × Bool)
 | 0,_,_,_,_,_,_,_=>none
 | k+1,x0,x6,x7,x9,x264000,x264001,x264002=>if (x9.length:Int) > 0 then ((some (([]:List (S46)):List (S46))).bind fun y273=>(if y273.length+x9.length<4398046511104 then ((some (y273++x9:List (S46))).bind fun y276=>(if y276.length+x7.length<4398046511104 then ((some (y276++x7:List (S46))).bind fun y279=>(if (wrap64 ((x6.length:Int)+(y279.length:Int))) > 40 then (some ((([]:List (S46))),false)) else (spec_l2Full.l0 k x0 x6 y279))) else (none))) else (none))) else (if x6.length<4398046511104 then ((some (x6++[(⟨x264000,x264001,x264002⟩:S46)]:List (S46))).bind fun y285=>(if (wrap64 ((y285.length:Int)+(x7.length:Int))) > 40 then (some ((([]:List (S46))),false)) else (spec_l2Full.l0 k x0 y285 x7))) else (none))
end
def spec_l2Full.f (k:Nat) (l0:List (S30)) (l1:List (S46)):Option ((List (S46)) × Bool):=(some (([]:List (S46)):List (S46))).bind fun y256=>(if y256.length+l1.length<4398046511104 then (spec_l2Full.l0 k l0 (([]:List (S46))) (y256++l1)) else (none))
set_option maxHeartbeats 8000000 in
set_option maxRecDepth 100000 in
theorem spec_l2Full.calls (k:Nat) (A0:Option Addr) (c0:Nat) (l0:List (S30)) (A1:Option Addr) (c1:Nat) (l1:List (S46)) (r1:List (S46)) (r2:Bool) (w:World) (hr0:Kd.C k30 w A0 l0.length l0) (hc0:l0.length≤c0) (hr1:Kd.C k46 w A1 l1.length l1) (hc1:l1.length≤c1) (h:spec_l2Full.f k l0 l1=some (r1,r2)) :
  Calls Tryd.prog 73 #[.slice A0 l0.length c0,.slice A1 l1.length c1] w fun e w'=>∃ v0_:Value,e = .returned (.tuple #[v0_,.bool r2])∧Kd.R k46 46 w' w.heap.size (fun _=>True) v0_ r1∧Below w.heap.size w w':=by
 have hu46:=Tryd.underlying46
 have HR0:=Aside0.mk hr0
 have HC0:=Aside0.mk hc0
 clear hr0 hc0
 have HR1:=Aside0.mk hr1
 have HC1:=Aside0.mk hc1
 clear hr1 hc1
 have HB:=Aside0.mk (Below.refl w.heap.size w)
 have H:((some (([]:List (S46)):List (S46))).bind fun y256=>(if y256.length+l1.length<4398046511104 then (spec_l2Full.l0 k l0 (([]:List (S46))) (y256++l1)) else (none)))=some (r1,r2):=h
 clear h
 obtain ⟨y253,hy253⟩:∃ y_:List (S46),y_=(([]:List (S46))):=⟨_,rfl⟩
 replace H:((some (([]:List (S46)):List (S46))).bind fun y256=>(if y256.length+l1.length<4398046511104 then (spec_l2Full.l0 k l0 y253 (y256++l1)) else (none)))=some (r1,r2):=by first|(rw [hy253];with_reducible exact H)|(have H2_:=(Option.bind_some _ _).symm.trans H;rw [hy253];with_reducible exact H2_)|(have H2_:=(Option.bind_some _ _).symm.trans H;with_reducible exact H2_)|with_reducible exact H|(rw [hy253];exact H)|exact H
 have Ny253:=Aside0.mk hy253
 clear hy253
 obtain ⟨y256,hy256⟩:∃ y_:List (S46),y_=(([]:List (S46))):=⟨_,rfl⟩
 replace H:(if y256.length+l1.length<4398046511104 then (spec_l2Full.l0 k l0 y253 (y256++l1)) else (none))=some (r1,r2):=by first|(rw [hy256];with_reducible exact H)|(have H2_:=(Option.bind_some _ _).symm.trans H;rw [hy256];with_reducible exact H2_)|(have H2_:=(Option.bind_some _ _).symm.trans H;with_reducible exact H2_)|with_reducible exact H|(rw [hy256];exact H)|exact H
 have Ny256:=Aside0.mk hy256
 clear hy256
 by_cases c3:y256.length+l1.length<4398046511104
 ·rw [if_pos c3] at H
  have LMc3:=Aside0.mk c3
  clear c3
  obtain ⟨y259,hy259⟩:∃ y_:List (S46),y_=(y256++l1):=⟨_,rfl⟩
  replace H:(spec_l2Full.l0 k l0 y253 y259)=some (r1,r2):=by first|(rw [hy259];with_reducible exact H)|(have H2_:=(Option.bind_some _ _).symm.trans H;rw [hy259];with_reducible exact H2_)|(have H2_:=(Option.bind_some _ _).symm.trans H;with_reducible exact H2_)|with_reducible exact H|(rw [hy259];exact H)|exact H
  have Ny259:=Aside0.mk hy259
  clear hy259
  have H':=Aside0.mk H
  clear H
  go_enter Tryd.func73,Tryd.ntmps73
  go_wp2_with (first|((with_reducible refine gate_dst (N:=10) rfl ?_);refine Kd.R_lit k46 _ 46 ?hg (N:=10) ?hd (xs:=([]:List (S46))) (inner:=[]) (ok:=fun _=>True) (okp:=fun _=>True) ?hr ?hp (fun _ hk=>hk) trivial (Below.refl _ _) (Nat.le_refl _) (by simp) ?_;(case hd=>rfl);(case hg=>rfl);(case hr=>first|(go_simp;done)|(go_simp;rfl));(case hp=>exact (Reps.none _ _));intro v254 w4 ho5 hb hg_ hnew_;clear hg_ hnew_;(first|rw [← Ny253.out] at ho5|(simp only [Int.reduceToNat] at ho5;rw [← Ny253.out] at ho5));have n0_:=Aside0.mk (Kd.R_lower ho5 (below_size qz1));have n1_:=Aside0.mk (below_step qz1 hb);clear HB;have HO255:=n0_;have HB:=n1_;clear n0_ n1_ hb ho5)|((with_reducible refine gate_dst (N:=11) rfl ?_);refine Kd.R_lit k46 _ 46 ?hg (N:=11) ?hd (xs:=([]:List (S46))) (inner:=[]) (ok:=fun _=>True) (okp:=fun _=>True) ?hr ?hp (fun _ hk=>hk) trivial (Below.refl _ _) (Nat.le_refl _) (by simp) ?_;(case hd=>rfl);(case hg=>rfl);(case hr=>first|(go_simp;done)|(go_simp;rfl));(case hp=>exact (Reps.none _ _));intro v257 w6 ho7 hb hg_ hnew_;clear hg_ hnew_;(first|rw [← Ny256.out] at ho7|(simp only [Int.reduceToNat] at ho7;rw [← Ny256.out] at ho7));have n0_:=Aside0.mk (Kd.R_elder' qz43 (Kd.R_base ho7) hb);have n1_:=Aside0.mk (Kd.R_lower (Kd.R_new' ho7 (Kd.R_lt qz43)) (below_size qz1));have n2_:=Aside0.mk (below_step qz1 hb);clear HO255 HB;have HO255:=n0_;have HO258:=n1_;have HB:=n2_;clear n0_ n1_ n2_ hb ho7)|((with_reducible refine gate_builtin (b:=.append) (xs:=#[.tmp 11,.tmp 12]) rfl ?_);at_builtin;refine Kd.R_append_rows k46 (w0:=w) w.heap.size rfl (.tmp 11) (.tmp 12) 26 46 (.agg #[(.int .i64 0),(.int .i64 0),(.string ⟨#[]⟩)]) 32 rfl Tryd.underlying26 info46 rfl (by decide) (by omega) v257 y256 l1 _ _ _ (fun k_=>some k_≠(v254:Value).ownBlock) (fun _=>False) rfl rfl ?aO ?aR (fun _ _ h=>h) (fun _ h=>h.elim) ?aF ?aB ?aS ?aL ?_;(case aR=>repeat (first|exact (Kd.C_below HR1.out HB.out)|(with_reducible refine Kd.C_alloc ?_ _)|(with_reducible refine Kd.C_drewN ?_ _)|(with_reducible refine Kd.C_drew ?_)));(case aB=>exact qz1);(case aF=>exact (fun k_ hk=>Kd.fresh' (Kd.R_lt qz43) k_ hk));(case aO=>(with_reducible repeat (first|apply Kd.R_alloc|apply Kd.R_drewN|apply Kd.R_drew));exact Kd.R_mono HO258.out (fun _ hk=>hk.2));(case aS=>exact (below_size qz1));(case aL=>have:=LMc3.out;omega);intro v260 w8 ho hb hg hat;rw [← Ny259.out] at ho;have n0_:=Aside0.mk (Kd.R_after (ok:=(fun _=>True)) qz43 hg hat);have n1_:=Aside0.mk (hb);have n2_:=Aside0.mk (ho);clear HO255 HB HO258;have HO255:=n0_;have HB:=n1_;have HO261:=n2_;clear n0_ n1_ n2_ ho hb hg hat))
  go_loopg [6,7] k (fun kq v6 v7 w'=>∃ (x6_1:List (S46)) (x7_1:List (S46)),Aside0 (spec_l2Full.l0 kq l0 x6_1 x7_1=some (r1,r2))∧Aside0 (kq≤k)∧Aside0 (Kd.R k46 46 w' w.heap.size (fun k_=>some k_≠(v7:Value).ownBlock) v6 x6_1)∧Aside0 (Kd.Q k46 46 w' w.heap.size (fun k_=>some k_≠(v6:Value).ownBlock) v7 x7_1)∧Aside0 (Below w.heap.size w w'))
  case atStart=>exact ⟨(y253),(y259),H',⟨Nat.le_refl _⟩,⟨by (with_reducible repeat (first|apply Kd.R_alloc|apply Kd.R_drewN|apply Kd.R_drew));exact Kd.R_mono HO255.out (fun _ hk=>hk.2)⟩,⟨Kd.Q_of_R (by (with_reducible repeat (first|apply Kd.R_alloc|apply Kd.R_drewN|apply Kd.R_drew));exact HO261.out)⟩,⟨qz2⟩⟩
  case round=>
   clear H'
   try clear c1
   try clear p2
   try clear c3
   try clear c7
   obtain ⟨x6_1,x7_1,HA,HK1,HO_6,HO_7,HB⟩:=hrel
   cases gk with
   | zero=>exact absurd HA.out (by simp [spec_l2Full.l0])
   | succ k1=>
    have H:=HA.out
    clear HA
    simp only [spec_l2Full.l0] at H
    by_cases c9:(x7_1.length:Int) > 0
    ·rw [if_pos c9] at H
     have c9b0:decide (0<(x7_1.length:Int))=true:=decide_eq_true c9
     have c9b1:decide (0<x7_1.length)=true:=decide_eq_true (by omega)
     clear c9
     by_cases c10:0<(x7_1.length:Int)
     ·rw [if_pos c10] at H
      have c10b0:decide (0<(x7_1.length:Int))=true:=decide_eq_true c10
      have c10b1:decide (0<x7_1.length)=true:=decide_eq_true (by omega)
      clear c10
      by_cases c11:1≤(x7_1.length:Int)
      ·rw [if_pos c11] at H
       have c11b0:=eq_true c11
       have c11b1:decide (1≤(x7_1.length:Int))=true:=decide_eq_true c11
       clear c11
       obtain ⟨y264,hy264⟩:∃ y_:List (S46),y_=(x7_1.drop (1:Int).toNat):=⟨_,rfl⟩
       replace H:(if ((rd_T46 x7_1 0).f0)=1 then ((spec_l2Get.f k1 l0 ((rd_T46 x7_1 0).f1)).bind fun t270=>(spec_l2Full.j1 k1 l0 x6_1 y264 t270 ((rd_T46 x7_1 0).f0) ((rd_T46 x7_1 0).f1) ((rd_T46 x7_1 0).f2))) else (spec_l2Full.j1 k1 l0 x6_1 y264 (([]:List (S46))) ((rd_T46 x7_1 0).f0) ((rd_T46 x7_1 0).f1) ((rd_T46 x7_1 0).f2)))=some (r1,r2):=by first|(rw [hy264];with_reducible exact H)|(have H2_:=(Option.bind_some _ _).symm.trans H;rw [hy264];with_reducible exact H2_)|(have H2_:=(Option.bind_some _ _).symm.trans H;with_reducible exact H2_)|with_reducible exact H|(rw [hy264];exact H)|exact H
       have Ny264:=Aside0.mk hy264
       clear hy264
       obtain ⟨y267,hy267⟩:∃ y_:List (S46),y_=(([]:List (S46))):=⟨_,rfl⟩
       replace H:(if ((rd_T46 x7_1 0).f0)=1 then ((spec_l2Get.f k1 l0 ((rd_T46 x7_1 0).f1)).bind fun t270=>(spec_l2Full.j1 k1 l0 x6_1 y264 t270 ((rd_T46 x7_1 0).f0) ((rd_T46 x7_1 0).f1) ((rd_T46 x7_1 0).f2))) else (spec_l2Full.j1 k1 l0 x6_1 y264 y267 ((rd_T46 x7_1 0).f0) ((rd_T46 x7_1 0).f1) ((rd_T46 x7_1 0).f2)))=some (r1,r2):=by first|(rw [hy267];with_reducible exact H)|(have H2_:=(Option.bind_some _ _).symm.trans H;rw [hy267];with_reducible exact H2_)|(have H2_:=(Option.bind_some _ _).symm.trans H;with_reducible exact H2_)|with_reducible exact H|(rw [hy267];exact H)|exact H
       have Ny267:=Aside0.mk hy267
       clear hy267
       have HC12:=Aside0.mk H
       clear H
       obtain ⟨Ao13,co13,eo13,_⟩:=Kd.Q_slice HO_7.out
       subst eo13
       have p262:0≤(0:Int):=(by omega)
       have q262:0<(x7_1.length:Int):=of_decide_eq_true qz3
       obtain ⟨ad262,e262,hx262_0,hx262_1,hx262_2⟩:=at_T46 (Kd.Q_reads' HO_7.out).2.2 0 p262 q262
       cases e262
       have qi262:(0<x7_1.length)=True:=eq_true (by omega)
       (try rw [show ((0:Int)).toNat=0 from rfl] at hx262_0)
       (try rw [show 0 * 3=0 from rfl] at hx262_0)
       (try rw [Addr.add_zero'] at hx262_0)
       (try rw [show ((0:Int)).toNat=0 from rfl] at hx262_1)
       (try rw [show 0 * 3=0 from rfl] at hx262_1)
       (try rw [Addr.add_zero'] at hx262_1)
       (try rw [show ((0:Int)).toNat=0 from rfl] at hx262_2)
       (try rw [show 0 * 3=0 from rfl] at hx262_2)
       (try rw [Addr.add_zero'] at hx262_2)
       replace p262:=eq_true p262
       replace q262:=eq_true q262
       go_upto_if 25 with (first|((with_reducible refine gate_dst (N:=8) rfl ?_);refine box_event ?hg (N:=8) ?hd (cs:=#[.int .i64 0,.int .i64 0,.string (⟨#[]⟩:ByteArray)]) (t:=46) ?hr ?_;(case hd=>rfl);(case hg=>rfl);(case hr=>first|(go_simp;done)|(go_simp;rfl));intro gb263 hg w14 hbox hb;have n0_:=Aside0.mk (Kd.R_below (Kd.R_elderB qz9 gb263 (Nat.le_of_eq hg.symm)) hb);have n1_:=Aside0.mk (Kd.Q_below (Kd.Q_elderB qz10 gb263 (Nat.le_of_eq hg.symm)) hb);have n2_:=Aside0.mk (below_step qz1 hb);have n3_:=Aside0.mk (hbox);have n4_:=Aside0.mk ((by rw [hg];exact (below_size qz1):w.heap.size≤gb263));have n5_:=Aside0.mk ((by rw [hg];exact (below_size qz1):w.heap.size≤gb263));clear HO_6 HO_7 HB;have HO_6:=n0_;have HO_7:=n1_;have HB:=n2_;have BK263:=n3_;have GW263:=n4_;have GE263:=n5_;clear n0_ n1_ n2_ n3_ n4_ n5_ hb hbox hg;have hcz15_0:w14.cell? ⟨gb263,0,none⟩=some (.int .i64 0):=(blk_cell BK263.out 0).trans rfl;have hcz15_1:w14.cell? ⟨gb263,1,none⟩=some (.int .i64 0):=(blk_cell BK263.out 1).trans rfl;have hcz15_2:w14.cell? ⟨gb263,2,none⟩=some (.string (⟨#[]⟩:ByteArray)):=(blk_cell BK263.out 2).trans rfl;have hfz15_0:=blk_frozen BK263.out 0;have hfz15_1:=blk_frozen BK263.out 1;have hfz15_2:=blk_frozen BK263.out 2)|((with_reducible refine gate_store (t:=46) (p:=8) rfl ?_);refine store_event (t:=46) (p:=8) (v:=?vo_w16) (w1:=(((w14.setCell ⟨gb263,0,none⟩ (.int .i64 ((rd_T46 x7_1 0).f0))).setCell ⟨gb263,1,none⟩ (.int .i64 ((rd_T46 x7_1 0).f1))).setCell ⟨gb263,2,none⟩ (.string ((rd_T46 x7_1 0).f2)))) ?hg ?ho ?hn ?hr ?_;(case ho=>rfl);(case hg=>rfl);(case hn=>rfl);(case hr=>first|(go_simp;done)|(go_simp;rfl));intro w16 hw;have n0_:Aside0 (Kd.R k46 46 w16 w.heap.size (fun k_=>some k_≠(.slice (some ad262) x7_1.length co13:Value).ownBlock∧k_≠gb263) u6 x6_1):=⟨(by rw [hw];exact (by (with_reducible repeat (first|apply Kd.R_alloc|apply Kd.R_drewN|apply Kd.R_drew));exact Kd.R_mono (Kd.R_far (p:=⟨gb263,2,none⟩) (Kd.R_far (p:=⟨gb263,1,none⟩) (Kd.R_far (p:=⟨gb263,0,none⟩) (Kd.R_mono HO_6.out (fun k_ hk=>(⟨hk,hk.2⟩:_∧k_≠gb263))) (fun _ hk=>hk.2) (.int .i64 ((rd_T46 x7_1 0).f0))) (fun _ hk=>hk.2) (.int .i64 ((rd_T46 x7_1 0).f1))) (fun _ hk=>hk.2) (.string ((rd_T46 x7_1 0).f2))) (fun _ hk=>⟨hk.1.1,hk.1.2⟩)))⟩;have n1_:Aside0 (Kd.Q k46 46 w16 w.heap.size (fun k_=>some k_≠(u6:Value).ownBlock∧k_≠gb263) (.slice (some ad262) x7_1.length co13) x7_1):=⟨(by rw [hw];exact (by (with_reducible repeat (first|apply Kd.Q_alloc|apply Kd.Q_drewN|apply Kd.Q_drew));exact Kd.Q_mono (Kd.Q_far (p:=⟨gb263,2,none⟩) (Kd.Q_far (p:=⟨gb263,1,none⟩) (Kd.Q_far (p:=⟨gb263,0,none⟩) (Kd.Q_mono HO_7.out (fun k_ hk=>(⟨hk,hk.2⟩:_∧k_≠gb263))) (fun _ hk=>hk.2) (.int .i64 ((rd_T46 x7_1 0).f0))) (fun _ hk=>hk.2) (.int .i64 ((rd_T46 x7_1 0).f1))) (fun _ hk=>hk.2) (.string ((rd_T46 x7_1 0).f2))) (fun _ hk=>⟨hk.1.1,hk.1.2⟩)))⟩;have n2_:Aside0 (w16.heap[gb263]?=some (.cells #[.int .i64 ((rd_T46 x7_1 0).f0),.int .i64 ((rd_T46 x7_1 0).f1),.string ((rd_T46 x7_1 0).f2)] 46 (0,0))):=⟨(by rw [hw];exact (by (with_reducible repeat (first|refine blk_drewN ?_ _|refine blk_drew ?_|refine blk_alloc ?_ _));refine blk_put (cs:=#[.int .i64 ((rd_T46 x7_1 0).f0),.int .i64 ((rd_T46 x7_1 0).f1),.string (⟨#[]⟩:ByteArray)]) ?_ 2 _ rfl;(with_reducible repeat (first|refine blk_drewN ?_ _|refine blk_drew ?_|refine blk_alloc ?_ _));refine blk_put (cs:=#[.int .i64 ((rd_T46 x7_1 0).f0),.int .i64 0,.string (⟨#[]⟩:ByteArray)]) ?_ 1 _ rfl;(with_reducible repeat (first|refine blk_drewN ?_ _|refine blk_drew ?_|refine blk_alloc ?_ _));refine blk_put (cs:=#[.int .i64 0,.int .i64 0,.string (⟨#[]⟩:ByteArray)]) ?_ 0 _ rfl;(with_reducible repeat (first|refine blk_drewN ?_ _|refine blk_drew ?_|refine blk_alloc ?_ _));exact BK263.out))⟩;have n3_:Aside0 (Below w.heap.size w w16):=⟨(by rw [hw];exact qz5)⟩;clear hw HO_6 HO_7 BK263 HB;have HO_6:=n0_;have HO_7:=n1_;have BK263:=n2_;have HB:=n3_;clear n0_ n1_ n2_ n3_;have q17:(1:Int)≤((x7_1.length:Int):Int):=of_decide_eq_true qz3;obtain ⟨i017,hi017,_,hsz17,_⟩:=info_parts info46;have hcut17:=cut_from (P:=Tryd.prog) 26 46 .i64 Tryd.underlying26 hi017 3 hsz17 (some ad262) x7_1.length co13 1 (by omega) q17;have hr17:=Kd.Q_drop (k:=(1:Int).toNat) HO_7.out (by omega);obtain ⟨A17,hA17⟩:∃ A1,A1=(if co13=(1:Int).toNat then (some ad262) else ((some ad262):Option Addr).map (·.add ((1:Int).toNat * 3))):=⟨_,rfl⟩;obtain ⟨c17,hc17⟩:∃ c1,c1=co13 - (1:Int).toNat:=⟨_,rfl⟩;have hy17:y264.length=x7_1.length - (1:Int).toNat:=(by rw [Ny264.out,List.length_drop]);rw [← Ny264.out] at hr17;rw [← hy17,← hA17,← hc17] at hcut17;replace hr17:Kd.Q k46 46 w16 w.heap.size (fun k_=>some k_≠(u6:Value).ownBlock∧k_≠gb263) (.slice A17 y264.length c17) y264:=(by rw [hA17,hc17,hy17];exact hr17);have HE17:Aside0 ((Value.slice A17 y264.length c17).ownBlock=(.slice (some ad262) x7_1.length co13:Value).ownBlock):=⟨by rw [hA17];split <;> (cases ((some ad262):Option Addr) <;> rfl)⟩;clear hy17 hi017 hsz17 HO_7 hA17 hc17;have HO266:=Aside0.mk hr17;clear hr17;replace q17:=eq_true q17;have n_:=Aside0.mk (Kd.R_mono (ok':=fun k_=>(some k_≠(.slice A17 y264.length c17:Value).ownBlock∧k_≠gb263)) HO_6.out (fun k_ hk=>⟨(by rw [HE17.out];exact hk.1),hk.2⟩));clear HO_6;have HO_6:=n_;clear n_)|((with_reducible refine gate_dst (N:=22) rfl ?_);refine Kd.R_lit k46 _ 46 ?hg (N:=22) ?hd (xs:=([]:List (S46))) (inner:=[]) (ok:=fun _=>True) (okp:=fun _=>True) ?hr ?hp (fun _ hk=>hk) trivial (Below.refl _ _) (Nat.le_refl _) (by simp) ?_;(case hd=>rfl);(case hg=>rfl);(case hr=>first|(go_simp;done)|(go_simp;rfl));(case hp=>exact (Reps.none _ _));intro v268 w18 ho19 hb hg_ hnew_;clear hg_ hnew_;(first|rw [← Ny267.out] at ho19|(simp only [Int.reduceToNat] at ho19;rw [← Ny267.out] at ho19));have n0_:=Aside0.mk (Kd.R_elder' qz9 (Kd.R_base ho19) hb);have n1_:=Aside0.mk (Kd.Q_elder' qz44 (Kd.R_base ho19) hb);have n2_:=Aside0.mk (Kd.R_lower (Kd.R_newB (Kd.R_new' (Kd.R_new' ho19 (Kd.R_lt qz9)) (Kd.Q_lt qz44)) (g:=gb263) (o:=.cells #[.int .i64 ((rd_T46 x7_1 0).f0),.int .i64 ((rd_T46 x7_1 0).f1),.string ((rd_T46 x7_1 0).f2)] 46 (0,0)) qz7) (below_size qz5));have n3_:=Aside0.mk (blk_below (g:=gb263) (o:=.cells #[.int .i64 ((rd_T46 x7_1 0).f0),.int .i64 ((rd_T46 x7_1 0).f1),.string ((rd_T46 x7_1 0).f2)] 46 (0,0)) qz7 hb);have n4_:=Aside0.mk (below_step qz5 hb);clear HO_6 HO266 BK263 HB;have HO_6:=n0_;have HO266:=n1_;have HO269:=n2_;have BK263:=n3_;have HB:=n4_;clear n0_ n1_ n2_ n3_ n4_ hb ho19;have hcz20_0:w18.cell? ⟨gb263,0,none⟩=some (.int .i64 ((rd_T46 x7_1 0).f0)):=(blk_cell BK263.out 0).trans rfl;have hcz20_1:w18.cell? ⟨gb263,1,none⟩=some (.int .i64 ((rd_T46 x7_1 0).f1)):=(blk_cell BK263.out 1).trans rfl;have hcz20_2:w18.cell? ⟨gb263,2,none⟩=some (.string ((rd_T46 x7_1 0).f2)):=(blk_cell BK263.out 2).trans rfl;have hfz20_0:=blk_frozen BK263.out 0;have hfz20_1:=blk_frozen BK263.out 1;have hfz20_2:=blk_frozen BK263.out 2))
       (try simp only [Act.put,List.setIfInBounds_toArray,List.set_cons_zero,List.set_cons_succ])
       go_cut [9] (fun v9 wc=>∃ (kq:Nat) (x9_11:List (S46)),Aside0 (spec_l2Full.j1 kq l0 x6_1 y264 x9_11 ((rd_T46 x7_1 0).f0) ((rd_T46 x7_1 0).f1) ((rd_T46 x7_1 0).f2)=some (r1,r2))∧Aside0 (kq≤k1)∧Aside0 (Kd.R k46 46 wc w.heap.size (fun k_=>some k_≠((.slice A17 y264.length c17):Value).ownBlock∧k_≠gb263) u6 x6_1)∧Aside0 (Kd.Q k46 46 wc w.heap.size (fun k_=>some k_≠(u6:Value).ownBlock∧k_≠gb263) (.slice A17 y264.length c17) y264)∧Aside0 (Kd.V k46 46 wc w.heap.size (fun k_=>some k_≠(u6:Value).ownBlock∧some k_≠((.slice A17 y264.length c17):Value).ownBlock∧k_≠gb263) v9 x9_11)∧Aside0 (wc.heap[gb263]?=some (.cells #[.int .i64 ((rd_T46 x7_1 0).f0),.int .i64 ((rd_T46 x7_1 0).f1),.string ((rd_T46 x7_1 0).f2)] 46 (0,0)))∧Aside0 (Below w.heap.size w wc))
       case first=>
        have H:=HC12.out
        clear HC12
        by_cases c21:((rd_T46 x7_1 0).f0)=1
        ·rw [if_pos c21] at H
         have c21b0:(((rd_T46 x7_1 0).f0) == 1)=true:=beq_iff_eq.mpr c21
         have c21b1:(((rd_T46 x7_1 0).f0) != 1)=false:=bne_eq_false_iff_eq.mpr c21
         clear c21
         (first|rw [c21b0]|(simp only [i64_w,i32_w];rw [c21b0])|skip)
         replace H:=Option.bind_eq_some_iff.mp H
         obtain ⟨t270,A220,H⟩:=H
         replace H:(spec_l2Full.j1 k1 l0 x6_1 y264 t270 ((rd_T46 x7_1 0).f0) ((rd_T46 x7_1 0).f1) ((rd_T46 x7_1 0).f2))=some (r1,r2):=H
         have A22:=Aside0.mk A220
         clear A220
         have H':=Aside0.mk H
         clear H
         have hcz23_0:w18.cell? ⟨gb263,0,none⟩=some (.int .i64 ((rd_T46 x7_1 0).f0)):=(blk_cell BK263.out 0).trans rfl
         have hcz23_1:w18.cell? ⟨gb263,1,none⟩=some (.int .i64 ((rd_T46 x7_1 0).f1)):=(blk_cell BK263.out 1).trans rfl
         have hcz23_2:w18.cell? ⟨gb263,2,none⟩=some (.string ((rd_T46 x7_1 0).f2)):=(blk_cell BK263.out 2).trans rfl
         have hfz23_0:=blk_frozen BK263.out 0
         have hfz23_1:=blk_frozen BK263.out 1
         have hfz23_2:=blk_frozen BK263.out 2
         go_wp2_with (first|((with_reducible refine gate_callee (f:=92) rfl ?_);refine goesL_ (some 29) rfl rfl Tryd.func92 (by kernel_rfl) rfl #[.slice A0 l0.length c0,.int .i64 ((rd_T46 x7_1 0).f1)] rfl qz8 ?_;(with_reducible refine (spec_l2Get.calls k1 (fun k_=>k_<w.heap.size) _ _ l0 ((rd_T46 x7_1 0).f1) t270 _ ?side1 A22.out).mono ?_);(case side1=>exact Kd.V_mk HC0.out (Kd.F_below (Kd.C_F k30_heap HR0.out) qz5));rintro e w24 ⟨v271,rfl,ho0,hb⟩;refine ⟨_,rfl,?_⟩;have n0_:=Aside0.mk (Kd.R_below qz9 hb);have n1_:=Aside0.mk (Kd.Q_below qz44 hb);have n2_:=Aside0.mk (Kd.R_below (by (with_reducible repeat (first|apply Kd.R_alloc|apply Kd.R_drewN|apply Kd.R_drew));exact HO269.out) hb);have n3_:=Aside0.mk (Kd.V_lower (Kd.V_mono (ok':=fun k_=>some k_≠(u6:Value).ownBlock∧some k_≠(.slice A17 y264.length c17:Value).ownBlock∧some k_≠(v268:Value).ownBlock∧k_≠gb263) ho0 (fun k_ hk_=>⟨Or.elim hk_ (fun hs_=>fun e_=>Nat.not_le.2 hs_ (Kd.R_base HO_6.out k_ e_.symm)) (fun hn_=>(Kd.fresh' (Kd.R_lt qz9) k_ hn_)),Or.elim hk_ (fun hs_=>fun e_=>Nat.not_le.2 hs_ (Kd.Q_base HO266.out k_ e_.symm)) (fun hn_=>(Kd.fresh' (Kd.Q_lt qz44) k_ hn_)),Or.elim hk_ (fun hs_=>fun e_=>Nat.not_le.2 hs_ (Kd.R_base HO269.out k_ e_.symm)) (fun hn_=>(Kd.fresh' (Kd.R_lt (by (with_reducible repeat (first|apply Kd.R_alloc|apply Kd.R_drewN|apply Kd.R_drew));exact HO269.out)) k_ hn_)),Or.elim hk_ (fun hs_=>fun e_=>Nat.not_le.2 hs_ (by rw [e_];exact GW263.out)) (fun hn_=>(Kd.freshB (g:=gb263) (o:=.cells #[.int .i64 ((rd_T46 x7_1 0).f0),.int .i64 ((rd_T46 x7_1 0).f1),.string ((rd_T46 x7_1 0).f2)] 46 (0,0)) qz7 k_ hn_))⟩)) (below_size qz5));have n4_:=Aside0.mk (blk_below (g:=gb263) (o:=.cells #[.int .i64 ((rd_T46 x7_1 0).f0),.int .i64 ((rd_T46 x7_1 0).f1),.string ((rd_T46 x7_1 0).f2)] 46 (0,0)) qz7 hb);have n5_:=Aside0.mk (below_step qz5 hb);clear HO_6 HO266 HO269 BK263 HB;have HO_6:=n0_;have HO266:=n1_;have HO269:=n2_;have HO272:=n3_;have BK263:=n4_;have HB:=n5_;clear n0_ n1_ n2_ n3_ n4_ n5_;(try clear hb);(try clear hb2);(try clear hk);(try clear hi);(try clear ho0)))
         go_meet
         case rel=>exact ⟨_,(t270),H',⟨qz46⟩,⟨qz72⟩,⟨qz71⟩,⟨by (with_reducible repeat (first|apply Kd.V_alloc|apply Kd.V_drewN|apply Kd.V_drew));exact Kd.V_mono HO272.out (fun _ hk=>⟨hk.1,⟨hk.2.1,hk.2.2.2⟩⟩)⟩,⟨qz7⟩,⟨qz5⟩⟩
        ·rw [if_neg c21] at H
         have c21b0:(((rd_T46 x7_1 0).f0) == 1)=false:=beq_eq_false_iff_ne.mpr c21
         have c21b1:(((rd_T46 x7_1 0).f0) != 1)=true:=bne_iff_ne.mpr c21
         (first|rw [c21b0]|(simp only [i64_w,i32_w];rw [c21b0])|skip)
         have H':=Aside0.mk H
         clear H
         go_wp2
         go_meet
         case rel=>exact ⟨_,(y267),H',⟨qz46⟩,⟨qz72⟩,⟨qz71⟩,⟨Kd.R_V (by (with_reducible repeat (first|apply Kd.R_alloc|apply Kd.R_drewN|apply Kd.R_drew));exact Kd.R_mono HO269.out (fun _ hk=>⟨hk.1.1.2,⟨hk.1.2,hk.2⟩⟩))⟩,⟨qz7⟩,⟨qz5⟩⟩
       case rest=>
        clear HC12
        try clear c1
        try clear q1
        try clear c2
        try clear p2
        try clear q2
        try clear hx2
        try clear qi2
        try clear c3
        try clear c7
        try clear c9
        try clear c9b0
        try clear c9b1
        try clear c10
        try clear c10b0
        try clear c10b1
        try clear c11
        try clear c11b0
        try clear c11b1
        try clear c17
        try clear q17
        try clear c21
        try clear c21b0
        try clear c21b1
        try clear hcz15_0
        try clear hcz15_1
        try clear hcz15_2
        try clear hcz20_0
        try clear hcz20_1
        try clear hcz20_2
        try clear hcz23_0
        try clear hcz23_1
        try clear hcz23_2
        try clear hfz15_0
        try clear hfz15_1
        try clear hfz15_2
        try clear hfz20_0
        try clear hfz20_1
        try clear hfz20_2
        try clear hfz23_0
        try clear hfz23_1
        try clear hfz23_2
        try clear hx262_0
        try clear hx262_1
        try clear hx262_2
        try clear p2
        try clear p262
        try clear q17
        try clear q262
        obtain ⟨kq,x9_11,HA,HJ11,HO_6,HO_7,HO_9,BK263,HB⟩:=hcut
        cases kq with
        | zero=>exact absurd HA.out (by simp [spec_l2Full.j1])
        | succ kj11=>
         have H:=HA.out
         clear HA
         simp only [spec_l2Full.j1] at H
         by_cases c25:(x9_11.length:Int) > 0
         ·rw [if_pos c25] at H
          have c25b0:decide (0<(x9_11.length:Int))=true:=decide_eq_true c25
          have c25b1:decide (0<x9_11.length)=true:=decide_eq_true (by omega)
          clear c25
          obtain ⟨y273,hy273⟩:∃ y_:List (S46),y_=(([]:List (S46))):=⟨_,rfl⟩
          replace H:(if y273.length+x9_11.length<4398046511104 then ((some (y273++x9_11:List (S46))).bind fun y276=>(if y276.length+y264.length<4398046511104 then ((some (y276++y264:List (S46))).bind fun y279=>(if (wrap64 ((x6_1.length:Int)+(y279.length:Int))) > 40 then (some ((([]:List (S46))),false)) else (spec_l2Full.l0 kj11 l0 x6_1 y279))) else (none))) else (none))=some (r1,r2):=by first|(rw [hy273];with_reducible exact H)|(have H2_:=(Option.bind_some _ _).symm.trans H;rw [hy273];with_reducible exact H2_)|(have H2_:=(Option.bind_some _ _).symm.trans H;with_reducible exact H2_)|with_reducible exact H|(rw [hy273];exact H)|exact H
          have Ny273:=Aside0.mk hy273
          clear hy273
          by_cases c26:y273.length+x9_11.length<4398046511104
          ·rw [if_pos c26] at H
           have LMc26:=Aside0.mk c26
           clear c26
           obtain ⟨y276,hy276⟩:∃ y_:List (S46),y_=(y273++x9_11):=⟨_,rfl⟩
           replace H:(if y276.length+y264.length<4398046511104 then ((some (y276++y264:List (S46))).bind fun y279=>(if (wrap64 ((x6_1.length:Int)+(y279.length:Int))) > 40 then (some ((([]:List (S46))),false)) else (spec_l2Full.l0 kj11 l0 x6_1 y279))) else (none))=some (r1,r2):=by first|(rw [hy276];with_reducible exact H)|(have H2_:=(Option.bind_some _ _).symm.trans H;rw [hy276];with_reducible exact H2_)|(have H2_:=(Option.bind_some _ _).symm.trans H;with_reducible exact H2_)|with_reducible exact H|(rw [hy276];exact H)|exact H
           have Ny276:=Aside0.mk hy276
           clear hy276
           by_cases c27:y276.length+y264.length<4398046511104
           ·rw [if_pos c27] at H
            have LMc27:=Aside0.mk c27
            clear c27
            obtain ⟨y279,hy279⟩:∃ y_:List (S46),y_=(y276++y264):=⟨_,rfl⟩
            replace H:(if (wrap64 ((x6_1.length:Int)+(y279.length:Int))) > 40 then (some ((([]:List (S46))),false)) else (spec_l2Full.l0 kj11 l0 x6_1 y279))=some (r1,r2):=by first|(rw [hy279];with_reducible exact H)|(have H2_:=(Option.bind_some _ _).symm.trans H;rw [hy279];with_reducible exact H2_)|(have H2_:=(Option.bind_some _ _).symm.trans H;with_reducible exact H2_)|with_reducible exact H|(rw [hy279];exact H)|exact H
            have Ny279:=Aside0.mk hy279
            clear hy279
            by_cases c28:(wrap64 ((x6_1.length:Int)+(y279.length:Int))) > 40
            ·rw [if_pos c28] at H
             have c28b0:decide (40<(wrap64 ((x6_1.length:Int)+(y279.length:Int))))=true:=decide_eq_true c28
             clear c28
             obtain ⟨y282,hy282⟩:∃ y_:List (S46),y_=(([]:List (S46))):=⟨_,rfl⟩
             replace H:(some (y282,false))=some (r1,r2):=by first|(rw [hy282];with_reducible exact H)|(have H2_:=(Option.bind_some _ _).symm.trans H;rw [hy282];with_reducible exact H2_)|(have H2_:=(Option.bind_some _ _).symm.trans H;with_reducible exact H2_)|with_reducible exact H|(rw [hy282];exact H)|exact H
             have Ny282:=Aside0.mk hy282
             clear hy282
             simp only [Option.some.injEq,Prod.mk.injEq] at H
             obtain ⟨rfl,rfl⟩:=H
             obtain ⟨Ao29,co29,eo29⟩:=Kd.V_slice HO_9.out
             subst eo29
             go_wp2_with (first|((with_reducible refine gate_dst (N:=33) rfl ?_);refine Kd.R_lit k46 _ 46 ?hg (N:=33) ?hd (xs:=([]:List (S46))) (inner:=[]) (ok:=fun _=>True) (okp:=fun _=>True) ?hr ?hp (fun _ hk=>hk) trivial (Below.refl _ _) (Nat.le_refl _) (by simp) ?_;(case hd=>rfl);(case hg=>rfl);(case hr=>first|(go_simp;done)|(go_simp;rfl));(case hp=>exact (Reps.none _ _));intro v274 w30 ho31 hb hg_ hnew_;clear hg_ hnew_;(first|rw [← Ny273.out] at ho31|(simp only [Int.reduceToNat] at ho31;rw [← Ny273.out] at ho31));have n0_:=Aside0.mk (Kd.R_elder' qz9 (Kd.R_base ho31) hb);have n1_:=Aside0.mk (Kd.Q_elder' qz10 (Kd.R_base ho31) hb);have n2_:=Aside0.mk (Kd.V_elder' qz25 (Kd.R_base ho31) hb);have n3_:=Aside0.mk (Kd.R_lower (Kd.R_newB (Kd.R_new' (Kd.R_new' ho31 (Kd.R_lt qz9)) (Kd.Q_lt qz10)) (g:=gb263) (o:=.cells #[.int .i64 ((rd_T46 x7_1 0).f0),.int .i64 ((rd_T46 x7_1 0).f1),.string ((rd_T46 x7_1 0).f2)] 46 (0,0)) qz7) (below_size qz5));have n4_:=Aside0.mk (blk_below (g:=gb263) (o:=.cells #[.int .i64 ((rd_T46 x7_1 0).f0),.int .i64 ((rd_T46 x7_1 0).f1),.string ((rd_T46 x7_1 0).f2)] 46 (0,0)) qz7 hb);have n5_:=Aside0.mk (below_step qz5 hb);clear HO_6 HO_7 HO_9 BK263 HB;have HO_6:=n0_;have HO_7:=n1_;have HO_9:=n2_;have HO275:=n3_;have BK263:=n4_;have HB:=n5_;clear n0_ n1_ n2_ n3_ n4_ n5_ hb ho31)|((with_reducible refine gate_builtin (b:=.append) (xs:=#[.tmp 33,.tmp 34]) rfl ?_);at_builtin;refine Kd.R_append_rows k46 (w0:=w) w.heap.size rfl (.tmp 33) (.tmp 34) 26 46 (.agg #[(.int .i64 0),(.int .i64 0),(.string ⟨#[]⟩)]) 32 rfl Tryd.underlying26 info46 rfl (by decide) (by omega) v274 y273 x9_11 _ _ _ (fun k_=>some k_≠(u6:Value).ownBlock∧some k_≠(.slice A17 y264.length c17:Value).ownBlock∧k_≠gb263) (fun _=>False) rfl rfl ?aO ?aR (fun _ _ h=>h) (fun _ h=>h.elim) ?aF ?aB ?aS ?aL ?_;(case aR=>exact qz62);(case aB=>exact qz5);(case aF=>exact (fun k_ hk=>⟨Kd.fresh' (Kd.R_lt qz9) k_ hk,Kd.fresh' (Kd.Q_lt qz10) k_ hk,Kd.freshB (g:=gb263) (o:=.cells #[.int .i64 ((rd_T46 x7_1 0).f0),.int .i64 ((rd_T46 x7_1 0).f1),.string ((rd_T46 x7_1 0).f2)] 46 (0,0)) qz7 k_ hk⟩));(case aO=>exact qz68);(case aS=>exact (below_size qz5));(case aL=>have:=LMc26.out;omega);intro v277 w32 ho hb hg hat;rw [← Ny276.out] at ho;have n0_:=Aside0.mk (Kd.R_after (ok:=(fun k_=>some k_≠(.slice A17 y264.length c17:Value).ownBlock∧k_≠gb263)) qz9 hg hat);have n1_:=Aside0.mk (Kd.Q_after (ok:=(fun k_=>some k_≠(u6:Value).ownBlock∧k_≠gb263)) qz10 hg hat);have n2_:=Aside0.mk (Kd.V_afterv (ok:=(fun k_=>some k_≠(u6:Value).ownBlock∧some k_≠(.slice A17 y264.length c17:Value).ownBlock∧k_≠gb263)) qz25 hg hat);have n3_:=Aside0.mk (blk_grown (g:=gb263) (o:=.cells #[.int .i64 ((rd_T46 x7_1 0).f0),.int .i64 ((rd_T46 x7_1 0).f1),.string ((rd_T46 x7_1 0).f2)] 46 (0,0)) qz7 hg (Kd.R_away HO275.out (fun _ hk=>hk.2)));have n4_:=Aside0.mk (hb);have n5_:=Aside0.mk (ho);clear HO_6 HO_7 HO_9 BK263 HB HO275;have HO_6:=n0_;have HO_7:=n1_;have HO_9:=n2_;have BK263:=n3_;have HB:=n4_;have HO278:=n5_;clear n0_ n1_ n2_ n3_ n4_ n5_ ho hb hg hat)|((with_reducible refine gate_builtin (b:=.append) (xs:=#[.tmp 35,.tmp 36]) rfl ?_);at_builtin;refine Kd.R_append_rows k46 (w0:=w) w.heap.size rfl (.tmp 35) (.tmp 36) 26 46 (.agg #[(.int .i64 0),(.int .i64 0),(.string ⟨#[]⟩)]) 32 rfl Tryd.underlying26 info46 rfl (by decide) (by omega) v277 y276 y264 _ _ _ (fun k_=>some k_≠(u6:Value).ownBlock∧some k_≠(.slice A17 y264.length c17:Value).ownBlock∧k_≠gb263) (fun _=>False) rfl rfl ?aO ?aR (fun _ _ h=>h) (fun _ h=>h.elim) ?aF ?aB ?aS ?aL ?_;(case aR=>exact qz65);(case aB=>exact qz5);(case aF=>exact (fun k_ hk=>⟨Kd.fresh' (Kd.R_lt qz9) k_ hk,Kd.fresh' (Kd.Q_lt qz10) k_ hk,Kd.freshB (g:=gb263) (o:=.cells #[.int .i64 ((rd_T46 x7_1 0).f0),.int .i64 ((rd_T46 x7_1 0).f1),.string ((rd_T46 x7_1 0).f2)] 46 (0,0)) qz7 k_ hk⟩));(case aO=>(with_reducible repeat (first|apply Kd.R_alloc|apply Kd.R_drewN|apply Kd.R_drew));exact HO278.out);(case aS=>exact (below_size qz5));(case aL=>have:=LMc27.out;omega);intro v280 w33 ho hb hg hat;rw [← Ny279.out] at ho;have n0_:=Aside0.mk (Kd.R_after (ok:=(fun k_=>some k_≠(.slice A17 y264.length c17:Value).ownBlock∧k_≠gb263)) qz9 hg hat);have n1_:=Aside0.mk (Kd.Q_after (ok:=(fun k_=>some k_≠(u6:Value).ownBlock∧k_≠gb263)) qz10 hg hat);have n2_:=Aside0.mk (Kd.V_afterv (ok:=(fun k_=>some k_≠(u6:Value).ownBlock∧some k_≠(.slice A17 y264.length c17:Value).ownBlock∧k_≠gb263)) qz25 hg hat);have n3_:=Aside0.mk (blk_grown (g:=gb263) (o:=.cells #[.int .i64 ((rd_T46 x7_1 0).f0),.int .i64 ((rd_T46 x7_1 0).f1),.string ((rd_T46 x7_1 0).f2)] 46 (0,0)) qz7 hg (Kd.R_away HO278.out (fun _ hk=>hk.2.2)));have n4_:=Aside0.mk (hb);have n5_:=Aside0.mk (ho);clear HO_6 HO_7 HO_9 BK263 HB HO278;have HO_6:=n0_;have HO_7:=n1_;have HO_9:=n2_;have BK263:=n3_;have HB:=n4_;have HO281:=n5_;clear n0_ n1_ n2_ n3_ n4_ n5_ ho hb hg hat;obtain ⟨Ao34,co34,eo34⟩:=Kd.R_slice HO_6.out;subst eo34;obtain ⟨Ao35,co35,eo35⟩:=Kd.R_slice HO281.out;subst eo35)|((with_reducible refine gate_dst (N:=48) rfl ?_);refine Kd.R_lit k46 _ 46 ?hg (N:=48) ?hd (xs:=([]:List (S46))) (inner:=[]) (ok:=fun _=>True) (okp:=fun _=>True) ?hr ?hp (fun _ hk=>hk) trivial (Below.refl _ _) (Nat.le_refl _) (by simp) ?_;(case hd=>rfl);(case hg=>rfl);(case hr=>first|(go_simp;done)|(go_simp;rfl));(case hp=>exact (Reps.none _ _));intro v283 w36 ho37 hb hg_ hnew_;clear hg_ hnew_;(first|rw [← Ny282.out] at ho37|(simp only [Int.reduceToNat] at ho37;rw [← Ny282.out] at ho37));have n0_:=Aside0.mk (Kd.R_elder' qz9 (Kd.R_base ho37) hb);have n1_:=Aside0.mk (Kd.Q_elder' qz10 (Kd.R_base ho37) hb);have n2_:=Aside0.mk (Kd.V_elder' qz25 (Kd.R_base ho37) hb);have n3_:=Aside0.mk (Kd.R_elder' (by (with_reducible repeat (first|apply Kd.R_alloc|apply Kd.R_drewN|apply Kd.R_drew));exact HO281.out) (Kd.R_base ho37) hb);have n4_:=Aside0.mk (Kd.R_lower (Kd.R_newB (Kd.R_new' (Kd.R_new' (Kd.R_new' ho37 (Kd.R_lt qz9)) (Kd.Q_lt qz10)) (Kd.R_lt (by (with_reducible repeat (first|apply Kd.R_alloc|apply Kd.R_drewN|apply Kd.R_drew));exact HO281.out))) (g:=gb263) (o:=.cells #[.int .i64 ((rd_T46 x7_1 0).f0),.int .i64 ((rd_T46 x7_1 0).f1),.string ((rd_T46 x7_1 0).f2)] 46 (0,0)) qz7) (below_size qz5));have n5_:=Aside0.mk (blk_below (g:=gb263) (o:=.cells #[.int .i64 ((rd_T46 x7_1 0).f0),.int .i64 ((rd_T46 x7_1 0).f1),.string ((rd_T46 x7_1 0).f2)] 46 (0,0)) qz7 hb);have n6_:=Aside0.mk (below_step qz5 hb);clear HO_6 HO_7 HO_9 HO281 BK263 HB;have HO_6:=n0_;have HO_7:=n1_;have HO_9:=n2_;have HO281:=n3_;have HO284:=n4_;have BK263:=n5_;have HB:=n6_;clear n0_ n1_ n2_ n3_ n4_ n5_ n6_ hb ho37))
             go_ret2
             exact ⟨_,qz4,by (with_reducible repeat (first|apply Kd.R_alloc|apply Kd.R_drewN|apply Kd.R_drew));exact Kd.R_mono HO284.out (fun _ hk=>trivial),qz5⟩
            ·rw [if_neg c28] at H
             have c28b0:decide (40<(wrap64 ((x6_1.length:Int)+(y279.length:Int))))=false:=decide_eq_false c28
             clear c28
             have H':=Aside0.mk H
             clear H
             obtain ⟨Ao38,co38,eo38⟩:=Kd.V_slice HO_9.out
             subst eo38
             go_wp2_with (first|((with_reducible refine gate_dst (N:=33) rfl ?_);refine Kd.R_lit k46 _ 46 ?hg (N:=33) ?hd (xs:=([]:List (S46))) (inner:=[]) (ok:=fun _=>True) (okp:=fun _=>True) ?hr ?hp (fun _ hk=>hk) trivial (Below.refl _ _) (Nat.le_refl _) (by simp) ?_;(case hd=>rfl);(case hg=>rfl);(case hr=>first|(go_simp;done)|(go_simp;rfl));(case hp=>exact (Reps.none _ _));intro v274 w39 ho40 hb hg_ hnew_;clear hg_ hnew_;(first|rw [← Ny273.out] at ho40|(simp only [Int.reduceToNat] at ho40;rw [← Ny273.out] at ho40));have n0_:=Aside0.mk (Kd.R_elder' qz9 (Kd.R_base ho40) hb);have n1_:=Aside0.mk (Kd.Q_elder' qz10 (Kd.R_base ho40) hb);have n2_:=Aside0.mk (Kd.V_elder' qz25 (Kd.R_base ho40) hb);have n3_:=Aside0.mk (Kd.R_lower (Kd.R_newB (Kd.R_new' (Kd.R_new' ho40 (Kd.R_lt qz9)) (Kd.Q_lt qz10)) (g:=gb263) (o:=.cells #[.int .i64 ((rd_T46 x7_1 0).f0),.int .i64 ((rd_T46 x7_1 0).f1),.string ((rd_T46 x7_1 0).f2)] 46 (0,0)) qz7) (below_size qz5));have n4_:=Aside0.mk (blk_below (g:=gb263) (o:=.cells #[.int .i64 ((rd_T46 x7_1 0).f0),.int .i64 ((rd_T46 x7_1 0).f1),.string ((rd_T46 x7_1 0).f2)] 46 (0,0)) qz7 hb);have n5_:=Aside0.mk (below_step qz5 hb);clear HO_6 HO_7 HO_9 BK263 HB;have HO_6:=n0_;have HO_7:=n1_;have HO_9:=n2_;have HO275:=n3_;have BK263:=n4_;have HB:=n5_;clear n0_ n1_ n2_ n3_ n4_ n5_ hb ho40)|((with_reducible refine gate_builtin (b:=.append) (xs:=#[.tmp 33,.tmp 34]) rfl ?_);at_builtin;refine Kd.R_append_rows k46 (w0:=w) w.heap.size rfl (.tmp 33) (.tmp 34) 26 46 (.agg #[(.int .i64 0),(.int .i64 0),(.string ⟨#[]⟩)]) 32 rfl Tryd.underlying26 info46 rfl (by decide) (by omega) v274 y273 x9_11 _ _ _ (fun k_=>some k_≠(u6:Value).ownBlock∧some k_≠(.slice A17 y264.length c17:Value).ownBlock∧k_≠gb263) (fun _=>False) rfl rfl ?aO ?aR (fun _ _ h=>h) (fun _ h=>h.elim) ?aF ?aB ?aS ?aL ?_;(case aR=>exact qz62);(case aB=>exact qz5);(case aF=>exact (fun k_ hk=>⟨Kd.fresh' (Kd.R_lt qz9) k_ hk,Kd.fresh' (Kd.Q_lt qz10) k_ hk,Kd.freshB (g:=gb263) (o:=.cells #[.int .i64 ((rd_T46 x7_1 0).f0),.int .i64 ((rd_T46 x7_1 0).f1),.string ((rd_T46 x7_1 0).f2)] 46 (0,0)) qz7 k_ hk⟩));(case aO=>exact qz68);(case aS=>exact (below_size qz5));(case aL=>have:=LMc26.out;omega);intro v277 w41 ho hb hg hat;rw [← Ny276.out] at ho;have n0_:=Aside0.mk (Kd.R_after (ok:=(fun k_=>some k_≠(.slice A17 y264.length c17:Value).ownBlock∧k_≠gb263)) qz9 hg hat);have n1_:=Aside0.mk (Kd.Q_after (ok:=(fun k_=>some k_≠(u6:Value).ownBlock∧k_≠gb263)) qz10 hg hat);have n2_:=Aside0.mk (Kd.V_afterv (ok:=(fun k_=>some k_≠(u6:Value).ownBlock∧some k_≠(.slice A17 y264.length c17:Value).ownBlock∧k_≠gb263)) qz25 hg hat);have n3_:=Aside0.mk (blk_grown (g:=gb263) (o:=.cells #[.int .i64 ((rd_T46 x7_1 0).f0),.int .i64 ((rd_T46 x7_1 0).f1),.string ((rd_T46 x7_1 0).f2)] 46 (0,0)) qz7 hg (Kd.R_away HO275.out (fun _ hk=>hk.2)));have n4_:=Aside0.mk (hb);have n5_:=Aside0.mk (ho);clear HO_6 HO_7 HO_9 BK263 HB HO275;have HO_6:=n0_;have HO_7:=n1_;have HO_9:=n2_;have BK263:=n3_;have HB:=n4_;have HO278:=n5_;clear n0_ n1_ n2_ n3_ n4_ n5_ ho hb hg hat)|((with_reducible refine gate_builtin (b:=.append) (xs:=#[.tmp 35,.tmp 36]) rfl ?_);at_builtin;refine Kd.R_append_rows k46 (w0:=w) w.heap.size rfl (.tmp 35) (.tmp 36) 26 46 (.agg #[(.int .i64 0),(.int .i64 0),(.string ⟨#[]⟩)]) 32 rfl Tryd.underlying26 info46 rfl (by decide) (by omega) v277 y276 y264 _ _ _ (fun k_=>some k_≠(u6:Value).ownBlock∧some k_≠(.slice A17 y264.length c17:Value).ownBlock∧k_≠gb263) (fun _=>False) rfl rfl ?aO ?aR (fun _ _ h=>h) (fun _ h=>h.elim) ?aF ?aB ?aS ?aL ?_;(case aR=>exact qz65);(case aB=>exact qz5);(case aF=>exact (fun k_ hk=>⟨Kd.fresh' (Kd.R_lt qz9) k_ hk,Kd.fresh' (Kd.Q_lt qz10) k_ hk,Kd.freshB (g:=gb263) (o:=.cells #[.int .i64 ((rd_T46 x7_1 0).f0),.int .i64 ((rd_T46 x7_1 0).f1),.string ((rd_T46 x7_1 0).f2)] 46 (0,0)) qz7 k_ hk⟩));(case aO=>(with_reducible repeat (first|apply Kd.R_alloc|apply Kd.R_drewN|apply Kd.R_drew));exact HO278.out);(case aS=>exact (below_size qz5));(case aL=>have:=LMc27.out;omega);intro v280 w42 ho hb hg hat;rw [← Ny279.out] at ho;have n0_:=Aside0.mk (Kd.R_after (ok:=(fun k_=>some k_≠(.slice A17 y264.length c17:Value).ownBlock∧k_≠gb263)) qz9 hg hat);have n1_:=Aside0.mk (Kd.Q_after (ok:=(fun k_=>some k_≠(u6:Value).ownBlock∧k_≠gb263)) qz10 hg hat);have n2_:=Aside0.mk (Kd.V_afterv (ok:=(fun k_=>some k_≠(u6:Value).ownBlock∧some k_≠(.slice A17 y264.length c17:Value).ownBlock∧k_≠gb263)) qz25 hg hat);have n3_:=Aside0.mk (blk_grown (g:=gb263) (o:=.cells #[.int .i64 ((rd_T46 x7_1 0).f0),.int .i64 ((rd_T46 x7_1 0).f1),.string ((rd_T46 x7_1 0).f2)] 46 (0,0)) qz7 hg (Kd.R_away HO278.out (fun _ hk=>hk.2.2)));have n4_:=Aside0.mk (hb);have n5_:=Aside0.mk (ho);clear HO_6 HO_7 HO_9 BK263 HB HO278;have HO_6:=n0_;have HO_7:=n1_;have HO_9:=n2_;have BK263:=n3_;have HB:=n4_;have HO281:=n5_;clear n0_ n1_ n2_ n3_ n4_ n5_ ho hb hg hat;obtain ⟨Ao43,co43,eo43⟩:=Kd.R_slice HO_6.out;subst eo43;obtain ⟨Ao44,co44,eo44⟩:=Kd.R_slice HO281.out;subst eo44))
             go_roundg kj11
             case measure=>have:=HK1.out;have:=HJ11.out;omega
             case rel=>exact ⟨(x6_1),(y279),H',⟨by have:=HK1.out;have:=HJ11.out;omega⟩,⟨by (with_reducible repeat (first|apply Kd.R_alloc|apply Kd.R_drewN|apply Kd.R_drew));exact Kd.R_mono HO_6.out (fun _ hk=>hk.2)⟩,⟨Kd.Q_of_R (by (with_reducible repeat (first|apply Kd.R_alloc|apply Kd.R_drewN|apply Kd.R_drew));exact Kd.R_mono HO281.out (fun _ hk=>hk.1))⟩,⟨qz5⟩⟩
           ·rw [if_neg c27] at H
            exact absurd H (by simp)
          ·rw [if_neg c26] at H
           exact absurd H (by simp)
         ·rw [if_neg c25] at H
          have c25b0:decide (0<(x9_11.length:Int))=false:=decide_eq_false c25
          have c25b1:decide (0<x9_11.length)=false:=decide_eq_false (by omega)
          clear c25
          by_cases c45:x6_1.length<4398046511104
          ·rw [if_pos c45] at H
           have LMc45:=Aside0.mk c45
           clear c45
           obtain ⟨y285,hy285⟩:∃ y_:List (S46),y_=(x6_1++[(⟨((rd_T46 x7_1 0).f0),((rd_T46 x7_1 0).f1),((rd_T46 x7_1 0).f2)⟩:S46)]):=⟨_,rfl⟩
           replace H:(if (wrap64 ((y285.length:Int)+(y264.length:Int))) > 40 then (some ((([]:List (S46))),false)) else (spec_l2Full.l0 kj11 l0 y285 y264))=some (r1,r2):=by first|(rw [hy285];with_reducible exact H)|(have H2_:=(Option.bind_some _ _).symm.trans H;rw [hy285];with_reducible exact H2_)|(have H2_:=(Option.bind_some _ _).symm.trans H;with_reducible exact H2_)|with_reducible exact H|(rw [hy285];exact H)|exact H
           have Ny285:=Aside0.mk hy285
           clear hy285
           by_cases c46:(wrap64 ((y285.length:Int)+(y264.length:Int))) > 40
           ·rw [if_pos c46] at H
            have c46b0:decide (40<(wrap64 ((y285.length:Int)+(y264.length:Int))))=true:=decide_eq_true c46
            clear c46
            obtain ⟨y288,hy288⟩:∃ y_:List (S46),y_=(([]:List (S46))):=⟨_,rfl⟩
            replace H:(some (y288,false))=some (r1,r2):=by first|(rw [hy288];with_reducible exact H)|(have H2_:=(Option.bind_some _ _).symm.trans H;rw [hy288];with_reducible exact H2_)|(have H2_:=(Option.bind_some _ _).symm.trans H;with_reducible exact H2_)|with_reducible exact H|(rw [hy288];exact H)|exact H
            have Ny288:=Aside0.mk hy288
            clear hy288
            simp only [Option.some.injEq,Prod.mk.injEq] at H
            obtain ⟨rfl,rfl⟩:=H
            obtain ⟨Ao47,co47,eo47⟩:=Kd.V_slice HO_9.out
            subst eo47
            have hcz48_0:wc.cell? ⟨gb263,0,none⟩=some (.int .i64 ((rd_T46 x7_1 0).f0)):=(blk_cell BK263.out 0).trans rfl
            have hcz48_1:wc.cell? ⟨gb263,1,none⟩=some (.int .i64 ((rd_T46 x7_1 0).f1)):=(blk_cell BK263.out 1).trans rfl
            have hcz48_2:wc.cell? ⟨gb263,2,none⟩=some (.string ((rd_T46 x7_1 0).f2)):=(blk_cell BK263.out 2).trans rfl
            have hfz48_0:=blk_frozen BK263.out 0
            have hfz48_1:=blk_frozen BK263.out 1
            have hfz48_2:=blk_frozen BK263.out 2
            go_wp2_with (first|((with_reducible refine gate_builtin (b:=.append) (xs:=#[.tmp 38,.tmp 40]) rfl ?_);at_builtin;refine Kd.R_append k46 (w0:=w) w.heap.size rfl (.tmp 38) (.tmp 40) 26 46 (.agg #[(.int .i64 0),(.int .i64 0),(.string ⟨#[]⟩)]) 32 rfl Tryd.underlying26 info46 rfl (by decide) (by omega) u6 x6_1 (⟨((rd_T46 x7_1 0).f0),((rd_T46 x7_1 0).f1),((rd_T46 x7_1 0).f2)⟩:S46) [.int .i64 ((rd_T46 x7_1 0).f0),.int .i64 ((rd_T46 x7_1 0).f1),.string ((rd_T46 x7_1 0).f2)] (fun k_=>some k_≠(.slice A17 y264.length c17:Value).ownBlock∧k_≠gb263) (fun _=>False) rfl rfl ?aP (fun _ hk=>hk.elim) ?aF ?aO ?aB ?aS ?aL ?_;(case aP=>exact k46_mkM _ _ _ (⟨((rd_T46 x7_1 0).f0),((rd_T46 x7_1 0).f1),((rd_T46 x7_1 0).f2)⟩:S46));(case aB=>exact qz5);(case aF=>exact (fun k_ hk=>⟨Kd.fresh' (Kd.Q_lt qz10) k_ hk,Kd.freshB (g:=gb263) (o:=.cells #[.int .i64 ((rd_T46 x7_1 0).f0),.int .i64 ((rd_T46 x7_1 0).f1),.string ((rd_T46 x7_1 0).f2)] 46 (0,0)) qz7 k_ hk⟩));(case aO=>exact qz9);(case aS=>exact (below_size qz5));(case aL=>have:=LMc45.out;omega);intro v286 w49 ho hb hg hat;rw [← Ny285.out] at ho;have n0_:=Aside0.mk (Kd.Q_after (ok:=(fun k_=>k_≠gb263)) qz74 hg hat);have n1_:=Aside0.mk (Kd.V_afterv (ok:=(fun k_=>some k_≠(.slice A17 y264.length c17:Value).ownBlock∧k_≠gb263)) qz69 hg hat);have n2_:=Aside0.mk (blk_grown (g:=gb263) (o:=.cells #[.int .i64 ((rd_T46 x7_1 0).f0),.int .i64 ((rd_T46 x7_1 0).f1),.string ((rd_T46 x7_1 0).f2)] 46 (0,0)) qz7 hg (Kd.R_away HO_6.out (fun _ hk=>hk.2)));have n3_:=Aside0.mk (hb);have n4_:=Aside0.mk (ho);clear HO_7 HO_9 BK263 HB HO_6;have HO_7:=n0_;have HO_9:=n1_;have BK263:=n2_;have HB:=n3_;have HO287:=n4_;clear n0_ n1_ n2_ n3_ n4_ ho hb hg hat;obtain ⟨Ao50,co50,eo50⟩:=Kd.R_slice HO287.out;subst eo50)|((with_reducible refine gate_dst (N:=48) rfl ?_);refine Kd.R_lit k46 _ 46 ?hg (N:=48) ?hd (xs:=([]:List (S46))) (inner:=[]) (ok:=fun _=>True) (okp:=fun _=>True) ?hr ?hp (fun _ hk=>hk) trivial (Below.refl _ _) (Nat.le_refl _) (by simp) ?_;(case hd=>rfl);(case hg=>rfl);(case hr=>first|(go_simp;done)|(go_simp;rfl));(case hp=>exact (Reps.none _ _));intro v289 w51 ho52 hb hg_ hnew_;clear hg_ hnew_;(first|rw [← Ny288.out] at ho52|(simp only [Int.reduceToNat] at ho52;rw [← Ny288.out] at ho52));have n0_:=Aside0.mk (Kd.Q_elder' qz10 (Kd.R_base ho52) hb);have n1_:=Aside0.mk (Kd.V_elder' qz25 (Kd.R_base ho52) hb);have n2_:=Aside0.mk (Kd.R_elder' (by (with_reducible repeat (first|apply Kd.R_alloc|apply Kd.R_drewN|apply Kd.R_drew));exact HO287.out) (Kd.R_base ho52) hb);have n3_:=Aside0.mk (Kd.R_lower (Kd.R_newB (Kd.R_new' (Kd.R_new' ho52 (Kd.Q_lt qz10)) (Kd.R_lt (by (with_reducible repeat (first|apply Kd.R_alloc|apply Kd.R_drewN|apply Kd.R_drew));exact HO287.out))) (g:=gb263) (o:=.cells #[.int .i64 ((rd_T46 x7_1 0).f0),.int .i64 ((rd_T46 x7_1 0).f1),.string ((rd_T46 x7_1 0).f2)] 46 (0,0)) qz7) (below_size qz5));have n4_:=Aside0.mk (blk_below (g:=gb263) (o:=.cells #[.int .i64 ((rd_T46 x7_1 0).f0),.int .i64 ((rd_T46 x7_1 0).f1),.string ((rd_T46 x7_1 0).f2)] 46 (0,0)) qz7 hb);have n5_:=Aside0.mk (below_step qz5 hb);clear HO_7 HO_9 HO287 BK263 HB;have HO_7:=n0_;have HO_9:=n1_;have HO287:=n2_;have HO290:=n3_;have BK263:=n4_;have HB:=n5_;clear n0_ n1_ n2_ n3_ n4_ n5_ hb ho52))
            go_ret2
            exact ⟨_,qz4,by (with_reducible repeat (first|apply Kd.R_alloc|apply Kd.R_drewN|apply Kd.R_drew));exact Kd.R_mono HO290.out (fun _ hk=>trivial),qz5⟩
           ·rw [if_neg c46] at H
            have c46b0:decide (40<(wrap64 ((y285.length:Int)+(y264.length:Int))))=false:=decide_eq_false c46
            clear c46
            have H':=Aside0.mk H
            clear H
            obtain ⟨Ao53,co53,eo53⟩:=Kd.V_slice HO_9.out
            subst eo53
            have hcz54_0:wc.cell? ⟨gb263,0,none⟩=some (.int .i64 ((rd_T46 x7_1 0).f0)):=(blk_cell BK263.out 0).trans rfl
            have hcz54_1:wc.cell? ⟨gb263,1,none⟩=some (.int .i64 ((rd_T46 x7_1 0).f1)):=(blk_cell BK263.out 1).trans rfl
            have hcz54_2:wc.cell? ⟨gb263,2,none⟩=some (.string ((rd_T46 x7_1 0).f2)):=(blk_cell BK263.out 2).trans rfl
            have hfz54_0:=blk_frozen BK263.out 0
            have hfz54_1:=blk_frozen BK263.out 1
            have hfz54_2:=blk_frozen BK263.out 2
            go_wp2_with (first|((with_reducible refine gate_builtin (b:=.append) (xs:=#[.tmp 38,.tmp 40]) rfl ?_);at_builtin;refine Kd.R_append k46 (w0:=w) w.heap.size rfl (.tmp 38) (.tmp 40) 26 46 (.agg #[(.int .i64 0),(.int .i64 0),(.string ⟨#[]⟩)]) 32 rfl Tryd.underlying26 info46 rfl (by decide) (by omega) u6 x6_1 (⟨((rd_T46 x7_1 0).f0),((rd_T46 x7_1 0).f1),((rd_T46 x7_1 0).f2)⟩:S46) [.int .i64 ((rd_T46 x7_1 0).f0),.int .i64 ((rd_T46 x7_1 0).f1),.string ((rd_T46 x7_1 0).f2)] (fun k_=>some k_≠(.slice A17 y264.length c17:Value).ownBlock∧k_≠gb263) (fun _=>False) rfl rfl ?aP (fun _ hk=>hk.elim) ?aF ?aO ?aB ?aS ?aL ?_;(case aP=>exact k46_mkM _ _ _ (⟨((rd_T46 x7_1 0).f0),((rd_T46 x7_1 0).f1),((rd_T46 x7_1 0).f2)⟩:S46));(case aB=>exact qz5);(case aF=>exact (fun k_ hk=>⟨Kd.fresh' (Kd.Q_lt qz10) k_ hk,Kd.freshB (g:=gb263) (o:=.cells #[.int .i64 ((rd_T46 x7_1 0).f0),.int .i64 ((rd_T46 x7_1 0).f1),.string ((rd_T46 x7_1 0).f2)] 46 (0,0)) qz7 k_ hk⟩));(case aO=>exact qz9);(case aS=>exact (below_size qz5));(case aL=>have:=LMc45.out;omega);intro v286 w55 ho hb hg hat;rw [← Ny285.out] at ho;have n0_:=Aside0.mk (Kd.Q_after (ok:=(fun k_=>k_≠gb263)) qz74 hg hat);have n1_:=Aside0.mk (Kd.V_afterv (ok:=(fun k_=>some k_≠(.slice A17 y264.length c17:Value).ownBlock∧k_≠gb263)) qz69 hg hat);have n2_:=Aside0.mk (blk_grown (g:=gb263) (o:=.cells #[.int .i64 ((rd_T46 x7_1 0).f0),.int .i64 ((rd_T46 x7_1 0).f1),.string ((rd_T46 x7_1 0).f2)] 46 (0,0)) qz7 hg (Kd.R_away HO_6.out (fun _ hk=>hk.2)));have n3_:=Aside0.mk (hb);have n4_:=Aside0.mk (ho);clear HO_7 HO_9 BK263 HB HO_6;have HO_7:=n0_;have HO_9:=n1_;have BK263:=n2_;have HB:=n3_;have HO287:=n4_;clear n0_ n1_ n2_ n3_ n4_ ho hb hg hat;obtain ⟨Ao56,co56,eo56⟩:=Kd.R_slice HO287.out;subst eo56))
            go_roundg kj11
            case measure=>have:=HK1.out;have:=HJ11.out;omega
            case rel=>exact ⟨(y285),(y264),H',⟨by have:=HK1.out;have:=HJ11.out;omega⟩,⟨by (with_reducible repeat (first|apply Kd.R_alloc|apply Kd.R_drewN|apply Kd.R_drew));exact Kd.R_mono HO287.out (fun _ hk=>hk.1)⟩,⟨by (with_reducible repeat (first|apply Kd.Q_alloc|apply Kd.Q_drewN|apply Kd.Q_drew));exact Kd.Q_mono HO_7.out (fun _ hk=>hk.2)⟩,⟨qz5⟩⟩
          ·rw [if_neg c45] at H
           exact absurd H (by simp)
      ·rw [if_neg c11] at H
       exact absurd H (by simp)
     ·rw [if_neg c10] at H
      exact absurd H (by simp)
    ·rw [if_neg c9] at H
     have c9b0:decide (0<(x7_1.length:Int))=false:=decide_eq_false c9
     have c9b1:decide (0<x7_1.length)=false:=decide_eq_false (by omega)
     clear c9
     simp only [Option.some.injEq,Prod.mk.injEq] at H
     obtain ⟨rfl,rfl⟩:=H
     obtain ⟨Ao57,co57,eo57,_⟩:=Kd.Q_slice HO_7.out
     subst eo57
     go_wp2
     go_ret2
     exact ⟨_,qz4,by (with_reducible repeat (first|apply Kd.R_alloc|apply Kd.R_drewN|apply Kd.R_drew));exact Kd.R_mono HO_6.out (fun _ hk=>trivial),qz2⟩
 ·rw [if_neg c3] at H
  exact absurd H (by simp)

/-! ### spec_l2Walk: function 105 -/
def spec_l2Walk.l0:Nat→List (S30)→List (S46)→Option ((List (S46)))
 | 0,_,_=>none
 | k+1,x0,x5=>if 0<(x5.length:Int) then (if ((rd_T46 x5 0).f0)=1 then ((spec_l2Get.f k x0 ((rd_T46 x5 0).f1)).bind fun t293=>(if (t293.length:Int)=0 then (some x5) else (spec_l2Walk.l0 k x0 t293))) else (some x5)) else (none)
def spec_l2Walk.f (k:Nat) (l0:List (S30)) (l1:List (S46)):Option ((List (S46))):=spec_l2Walk.l0 k l0 l1
set_option maxHeartbeats 8000000 in
set_option maxRecDepth 100000 in
theorem spec_l2Walk.calls (k:Nat) (P0_:Nat→Prop) (A0:Option Addr) (c0:Nat) (l0:List (S30)) (P1_:Nat→Prop) (A1:Option Addr) (c1:Nat) (l1:List (S46)) (r:List (S46)) (w:World) (hs0:Kd.V k30 30 w w.heap.size (fun k_=>P0_ k_) (.slice A0 l0.length c0) l0) (hs1:Kd.V k46 46 w w.heap.size (fun k_=>P1_ k_) (.slice A1 l1.length c1) l1) (h:spec_l2Walk.f k l0 l1=some r) :
  Calls Tryd.prog 105 #[.slice A0 l0.length c0,.slice A1 l1.length c1] w fun e w'=>∃ v0_:Value,e = .returned (v0_)∧Kd.V k46 46 w' w.heap.size (fun k_=>((P0_ k_∨P1_ k_)∨w.heap.size≤k_)) v0_ r∧Below w.heap.size w w':=by
 have HO0:=Aside0.mk (show Kd.V k30 30 w w.heap.size (fun k_=>((P0_ k_∨P1_ k_)∨w.heap.size≤k_)) (.slice A0 l0.length c0) l0 from Kd.V_mono hs0 (fun k_ hk=>.inl (.inl hk)))
 have HO1:=Aside0.mk (show Kd.V k46 46 w w.heap.size (fun k_=>((P0_ k_∨P1_ k_)∨w.heap.size≤k_)) (.slice A1 l1.length c1) l1 from Kd.V_mono hs1 (fun k_ hk=>.inl (.inr hk)))
 have HB:=Aside0.mk (Below.refl w.heap.size w)
 have H:(spec_l2Walk.l0 k l0 l1)=some r:=h
 clear h
 have H':=Aside0.mk H
 clear H
 go_enter Tryd.func105,Tryd.ntmps105
 go_wp2
 go_loopg [5] k (fun kq v5 w'=>∃ (x5_1:List (S46)),Aside0 (spec_l2Walk.l0 kq l0 x5_1=some r)∧Aside0 (kq≤k)∧Aside0 (Kd.V k30 30 w' w.heap.size (fun k_=>((P0_ k_∨P1_ k_)∨w.heap.size≤k_)) (.slice A0 l0.length c0) l0)∧Aside0 (Kd.V k46 46 w' w.heap.size (fun k_=>((P0_ k_∨P1_ k_)∨w.heap.size≤k_)) v5 x5_1)∧Aside0 (Below w.heap.size w w'))
 case atStart=>exact ⟨(l1),H',⟨Nat.le_refl _⟩,⟨qz54⟩,⟨by (with_reducible repeat (first|apply Kd.V_alloc|apply Kd.V_drewN|apply Kd.V_drew));exact HO1.out⟩,⟨qz2⟩⟩
 case round=>
  clear H'
  try clear c1
  try clear p2
  obtain ⟨x5_1,HA,HK1,HO_0,HO_5,HB⟩:=hrel
  cases gk with
  | zero=>exact absurd HA.out (by simp [spec_l2Walk.l0])
  | succ k1=>
   have H:=HA.out
   clear HA
   simp only [spec_l2Walk.l0] at H
   by_cases c3:0<(x5_1.length:Int)
   ·rw [if_pos c3] at H
    have c3b0:decide (0<(x5_1.length:Int))=true:=decide_eq_true c3
    have c3b1:decide (0<x5_1.length)=true:=decide_eq_true (by omega)
    clear c3
    by_cases c4:((rd_T46 x5_1 0).f0)=1
    ·rw [if_pos c4] at H
     have c4b0:(((rd_T46 x5_1 0).f0) == 1)=true:=beq_iff_eq.mpr c4
     have c4b1:(((rd_T46 x5_1 0).f0) != 1)=false:=bne_eq_false_iff_eq.mpr c4
     clear c4
     replace H:=Option.bind_eq_some_iff.mp H
     obtain ⟨t293,A50,H⟩:=H
     replace H:(if (t293.length:Int)=0 then (some x5_1) else (spec_l2Walk.l0 k1 l0 t293))=some r:=H
     have A5:=Aside0.mk A50
     clear A50
     by_cases c6:(t293.length:Int)=0
     ·rw [if_pos c6] at H
      have c6b0:((t293.length:Int) == 0)=true:=beq_iff_eq.mpr c6
      have c6b1:((t293.length:Int) != 0)=false:=bne_eq_false_iff_eq.mpr c6
      clear c6
      obtain rfl:=Option.some.inj H
      obtain ⟨Ao7,co7,eo7⟩:=Kd.V_slice HO_5.out
      subst eo7
      have p291:0≤(0:Int):=(by omega)
      have q291:0<(x5_1.length:Int):=of_decide_eq_true qz3
      obtain ⟨ad291,e291,hx291_0,hx291_1,hx291_2⟩:=at_T46 (Kd.V_reads' HO_5.out).2.2 0 p291 q291
      cases e291
      have qi291:(0<x5_1.length)=True:=eq_true (by omega)
      (try rw [show ((0:Int)).toNat=0 from rfl] at hx291_0)
      (try rw [show 0 * 3=0 from rfl] at hx291_0)
      (try rw [Addr.add_zero'] at hx291_0)
      (try rw [show ((0:Int)).toNat=0 from rfl] at hx291_1)
      (try rw [show 0 * 3=0 from rfl] at hx291_1)
      (try rw [Addr.add_zero'] at hx291_1)
      (try rw [show ((0:Int)).toNat=0 from rfl] at hx291_2)
      (try rw [show 0 * 3=0 from rfl] at hx291_2)
      (try rw [Addr.add_zero'] at hx291_2)
      replace p291:=eq_true p291
      replace q291:=eq_true q291
      have p292:0≤(0:Int):=(by omega)
      have q292:0<(x5_1.length:Int):=of_decide_eq_true qz3
      obtain ⟨ad292,e292,hx292_0,hx292_1,hx292_2⟩:=at_T46 (Kd.V_reads' HO_5.out).2.2 0 p292 q292
      obtain rfl:ad291=ad292:=(by injection e292)
      have qi292:(0<x5_1.length)=True:=eq_true (by omega)
      (try rw [show ((0:Int)).toNat=0 from rfl] at hx292_0)
      (try rw [show 0 * 3=0 from rfl] at hx292_0)
      (try rw [Addr.add_zero'] at hx292_0)
      (try rw [show ((0:Int)).toNat=0 from rfl] at hx292_1)
      (try rw [show 0 * 3=0 from rfl] at hx292_1)
      (try rw [Addr.add_zero'] at hx292_1)
      (try rw [show ((0:Int)).toNat=0 from rfl] at hx292_2)
      (try rw [show 0 * 3=0 from rfl] at hx292_2)
      (try rw [Addr.add_zero'] at hx292_2)
      replace p292:=eq_true p292
      replace q292:=eq_true q292
      go_wp2_with (first|((with_reducible refine gate_callee (f:=92) rfl ?_);refine goesL_ (some 18) rfl rfl Tryd.func92 (by kernel_rfl) rfl #[.slice A0 l0.length c0,.int .i64 ((rd_T46 x5_1 0).f1)] rfl qz8 ?_;(with_reducible refine (spec_l2Get.calls k1 (fun k_=>((P0_ k_∨P1_ k_)∨w.heap.size≤k_)) _ _ l0 ((rd_T46 x5_1 0).f1) t293 _ ?side1 A5.out).mono ?_);(case side1=>exact HO_0.out);rintro e w8 ⟨v294,rfl,ho0,hb⟩;refine ⟨_,rfl,?_⟩;have n0_:=Aside0.mk (Kd.V_below qz38 hb);have n1_:=Aside0.mk (Kd.V_below qz45 hb);have n2_:=Aside0.mk (Kd.V_lower (Kd.V_mono (ok':=fun k_=>((P0_ k_∨P1_ k_)∨w.heap.size≤k_)) ho0 (fun k_ hk_=>Or.elim hk_ (fun hs_=>hs_) (fun hn_=>(.inr (Nat.le_trans (below_size qz1) hn_))))) (below_size qz1));have n3_:=Aside0.mk (below_step qz1 hb);clear HO_0 HO_5 HB;have HO_0:=n0_;have HO_5:=n1_;have HO295:=n2_;have HB:=n3_;clear n0_ n1_ n2_ n3_;(try clear hb);(try clear hb2);(try clear hk);(try clear hi);(try clear ho0);obtain ⟨Ao9,co9,eo9⟩:=Kd.V_slice HO295.out;subst eo9))
      go_ret
      exact ⟨_,qz4,qz45,qz2⟩
     ·rw [if_neg c6] at H
      have c6b0:((t293.length:Int) == 0)=false:=beq_eq_false_iff_ne.mpr c6
      have c6b1:((t293.length:Int) != 0)=true:=bne_iff_ne.mpr c6
      have c6b2:¬ (t293=[]):=fun h_=>c6 (by rw [h_];rfl)
      have H':=Aside0.mk H
      clear H
      obtain ⟨Ao10,co10,eo10⟩:=Kd.V_slice HO_5.out
      subst eo10
      have p291:0≤(0:Int):=(by omega)
      have q291:0<(x5_1.length:Int):=of_decide_eq_true qz3
      obtain ⟨ad291,e291,hx291_0,hx291_1,hx291_2⟩:=at_T46 (Kd.V_reads' HO_5.out).2.2 0 p291 q291
      cases e291
      have qi291:(0<x5_1.length)=True:=eq_true (by omega)
      (try rw [show ((0:Int)).toNat=0 from rfl] at hx291_0)
      (try rw [show 0 * 3=0 from rfl] at hx291_0)
      (try rw [Addr.add_zero'] at hx291_0)
      (try rw [show ((0:Int)).toNat=0 from rfl] at hx291_1)
      (try rw [show 0 * 3=0 from rfl] at hx291_1)
      (try rw [Addr.add_zero'] at hx291_1)
      (try rw [show ((0:Int)).toNat=0 from rfl] at hx291_2)
      (try rw [show 0 * 3=0 from rfl] at hx291_2)
      (try rw [Addr.add_zero'] at hx291_2)
      replace p291:=eq_true p291
      replace q291:=eq_true q291
      have p292:0≤(0:Int):=(by omega)
      have q292:0<(x5_1.length:Int):=of_decide_eq_true qz3
      obtain ⟨ad292,e292,hx292_0,hx292_1,hx292_2⟩:=at_T46 (Kd.V_reads' HO_5.out).2.2 0 p292 q292
      obtain rfl:ad291=ad292:=(by injection e292)
      have qi292:(0<x5_1.length)=True:=eq_true (by omega)
      (try rw [show ((0:Int)).toNat=0 from rfl] at hx292_0)
      (try rw [show 0 * 3=0 from rfl] at hx292_0)
      (try rw [Addr.add_zero'] at hx292_0)
      (try rw [show ((0:Int)).toNat=0 from rfl] at hx292_1)
      (try rw [show 0 * 3=0 from rfl] at hx292_1)
      (try rw [Addr.add_zero'] at hx292_1)
      (try rw [show ((0:Int)).toNat=0 from rfl] at hx292_2)
      (try rw [show 0 * 3=0 from rfl] at hx292_2)
      (try rw [Addr.add_zero'] at hx292_2)
      replace p292:=eq_true p292
      replace q292:=eq_true q292
      go_wp2_with (first|((with_reducible refine gate_callee (f:=92) rfl ?_);refine goesL_ (some 18) rfl rfl Tryd.func92 (by kernel_rfl) rfl #[.slice A0 l0.length c0,.int .i64 ((rd_T46 x5_1 0).f1)] rfl qz8 ?_;(with_reducible refine (spec_l2Get.calls k1 (fun k_=>((P0_ k_∨P1_ k_)∨w.heap.size≤k_)) _ _ l0 ((rd_T46 x5_1 0).f1) t293 _ ?side1 A5.out).mono ?_);(case side1=>exact HO_0.out);rintro e w11 ⟨v294,rfl,ho0,hb⟩;refine ⟨_,rfl,?_⟩;have n0_:=Aside0.mk (Kd.V_below qz38 hb);have n1_:=Aside0.mk (Kd.V_below qz45 hb);have n2_:=Aside0.mk (Kd.V_lower (Kd.V_mono (ok':=fun k_=>((P0_ k_∨P1_ k_)∨w.heap.size≤k_)) ho0 (fun k_ hk_=>Or.elim hk_ (fun hs_=>hs_) (fun hn_=>(.inr (Nat.le_trans (below_size qz1) hn_))))) (below_size qz1));have n3_:=Aside0.mk (below_step qz1 hb);clear HO_0 HO_5 HB;have HO_0:=n0_;have HO_5:=n1_;have HO295:=n2_;have HB:=n3_;clear n0_ n1_ n2_ n3_;(try clear hb);(try clear hb2);(try clear hk);(try clear hi);(try clear ho0);obtain ⟨Ao12,co12,eo12⟩:=Kd.V_slice HO295.out;subst eo12))
      go_roundg k1
      case measure=>have:=HK1.out;omega
      case rel=>exact ⟨(t293),H',⟨by have:=HK1.out;omega⟩,⟨qz38⟩,⟨by (with_reducible repeat (first|apply Kd.V_alloc|apply Kd.V_drewN|apply Kd.V_drew));exact HO295.out⟩,⟨qz2⟩⟩
    ·rw [if_neg c4] at H
     have c4b0:(((rd_T46 x5_1 0).f0) == 1)=false:=beq_eq_false_iff_ne.mpr c4
     have c4b1:(((rd_T46 x5_1 0).f0) != 1)=true:=bne_iff_ne.mpr c4
     obtain rfl:=Option.some.inj H
     obtain ⟨Ao13,co13,eo13⟩:=Kd.V_slice HO_5.out
     subst eo13
     have p291:0≤(0:Int):=(by omega)
     have q291:0<(x5_1.length:Int):=of_decide_eq_true qz3
     obtain ⟨ad291,e291,hx291_0,hx291_1,hx291_2⟩:=at_T46 (Kd.V_reads' HO_5.out).2.2 0 p291 q291
     cases e291
     have qi291:(0<x5_1.length)=True:=eq_true (by omega)
     (try rw [show ((0:Int)).toNat=0 from rfl] at hx291_0)
     (try rw [show 0 * 3=0 from rfl] at hx291_0)
     (try rw [Addr.add_zero'] at hx291_0)
     (try rw [show ((0:Int)).toNat=0 from rfl] at hx291_1)
     (try rw [show 0 * 3=0 from rfl] at hx291_1)
     (try rw [Addr.add_zero'] at hx291_1)
     (try rw [show ((0:Int)).toNat=0 from rfl] at hx291_2)
     (try rw [show 0 * 3=0 from rfl] at hx291_2)
     (try rw [Addr.add_zero'] at hx291_2)
     replace p291:=eq_true p291
     replace q291:=eq_true q291
     go_wp2
     go_ret
     exact ⟨_,qz4,qz45,qz2⟩
   ·rw [if_neg c3] at H
    exact absurd H (by simp)

end Go.Proofs.YtlaicnoikeieeaaDoor.P
