/- Contracts of functions of the program: each as a Lean function, and that its call does what that says; printed by cprint.py (this session) over print.py of the kit. Conditions: the hypotheses of each theorem. -/
import Derived.Test.YtlaicnoikeieeaaDoorVZ
import Derived.Test.YtlaicnoikeieeaaDoorP0
import Derived.Test.YtlaicnoikeieeaaDoorP9
namespace Go.Proofs.YtlaicnoikeieeaaDoor.P
open Go.RowKit Go.Proofs.YtlaicnoikeieeaaDoorW.PrintWords Go.Proofs.YtlaicnoikeieeaaDoorW.PrintLast Go.Proofs.YtlaicnoikeieeaaDoorW.PrintMore
attribute [local go_sem] max2_int min2_int max_two min_two max_three min_three max_four min_four   -- for this text's walks alone
set_option linter.unusedVariables false
set_option linter.unusedSimpArgs false
mutual
def spec_l2Full.l0:Nat→List (S30)→List (S46)→List (S46)→Option ((List (S46)) × Bool)
 | 0,_,_,_=>none
 | k+1,x0,x6,x7=>if (x7.length:Int) > 0 then (if 0<(x7.length:Int) then (if 1≤(x7.length:Int) then ((some (x7.drop (1:Int).toNat:List (S46))).bind fun y231=>(if ((rd_T46 x7 0).f0)=1 then ((spec_l2Get.f k x0 ((rd_T46 x7 0).f1)).bind fun t237=>(spec_l2Full.j1 k x0 x6 y231 t237 ((rd_T46 x7 0).f0) ((rd_T46 x7 0).f1) ((rd_T46 x7 0).f2))) else (spec_l2Full.j1 k x0 x6 y231 (([]:List (S46))) ((rd_T46 x7 0).f0) ((rd_T46 x7 0).f1) ((rd_T46 x7 0).f2)))) else (none)) else (none)) else (some (x6,true))
def spec_l2Full.j1:Nat→List (S30)→List (S46)→List (S46)→List (S46)→Int→Int→ByteArray→Option ((List (S46)) × Bool)
 | 0,_,_,_,_,_,_,_=>none
 | k+1,x0,x6,x7,x9,x231000,x231001,x231002=>if (x9.length:Int) > 0 then ((some (([]:List (S46)):List (S46))).bind fun y240=>(if y240.length+x9.length<4398046511104 then ((some (y240++x9:List (S46))).bind fun y243=>(if y243.length+x7.length<4398046511104 then ((some (y243++x7:List (S46))).bind fun y246=>(if (wrap64 ((x6.length:Int)+(y246.length:Int))) > 40 then (some ((([]:List (S46))),false)) else (spec_l2Full.l0 k x0 x6 y246))) else (none))) else (none))) else (if x6.length<4398046511104 then ((some (x6++[(⟨x231000,x231001,x231002⟩:S46)]:List (S46))).bind fun y252=>(if (wrap64 ((y252.length:Int)+(x7.length:Int))) > 40 then (some ((([]:List (S46))),false)) else (spec_l2Full.l0 k x0 y252 x7))) else (none))
end
def spec_l2Full.f (k:Nat) (l0:List (S30)) (l1:List (S46)):Option ((List (S46)) × Bool):=(some (([]:List (S46)):List (S46))).bind fun y223=>(if y223.length+l1.length<4398046511104 then (spec_l2Full.l0 k l0 (([]:List (S46))) (y223++l1)) else (none))
set_option maxHeartbeats 8000000 in
set_option maxRecDepth 100000 in
theorem spec_l2Full.calls (k:Nat) (A0:Option Addr) (c0:Nat) (l0:List (S30)) (A1:Option Addr) (c1:Nat) (l1:List (S46)) (r1:List (S46)) (r2:Bool) (w:World) (hr0:Kd.C k30 w A0 l0.length l0) (hc0:l0.length≤c0) (hr1:Kd.C k46 w A1 l1.length l1) (hc1:l1.length≤c1) (h:spec_l2Full.f k l0 l1=some (r1,r2)) :
  Calls Tryd.prog 73 #[.slice A0 l0.length c0,.slice A1 l1.length c1] w fun e w'=>∃ v0_:Value,e = .returned (.tuple #[v0_,.bool r2])∧Kd.R k46 46 w' w.heap.size (fun _=>True) v0_ r1∧Below w.heap.size w w':=by
 have hu46:=Tryd.underlying46
 have HR0:=Aside0.mk hr0
 have HC0:=Aside0.mk hc0
 clear hr0 hc0
 have HR1:=Aside0.mk hr1
 have HC1:=Aside0.mk hc1
 clear hr1 hc1
 have HB:=Aside0.mk (Below.refl w.heap.size w)
 have H:((some (([]:List (S46)):List (S46))).bind fun y223=>(if y223.length+l1.length<4398046511104 then (spec_l2Full.l0 k l0 (([]:List (S46))) (y223++l1)) else (none)))=some (r1,r2):=h
 clear h
 obtain ⟨y220,hy220⟩:∃ y_:List (S46),y_=(([]:List (S46))):=⟨_,rfl⟩
 replace H:((some (([]:List (S46)):List (S46))).bind fun y223=>(if y223.length+l1.length<4398046511104 then (spec_l2Full.l0 k l0 y220 (y223++l1)) else (none)))=some (r1,r2):=by first|(rw [hy220];with_reducible exact H)|(have H2_:=(Option.bind_some _ _).symm.trans H;rw [hy220];with_reducible exact H2_)|(have H2_:=(Option.bind_some _ _).symm.trans H;with_reducible exact H2_)|with_reducible exact H|(rw [hy220];exact H)|exact H
 have Ny220:=Aside0.mk hy220
 clear hy220
 obtain ⟨y223,hy223⟩:∃ y_:List (S46),y_=(([]:List (S46))):=⟨_,rfl⟩
 replace H:(if y223.length+l1.length<4398046511104 then (spec_l2Full.l0 k l0 y220 (y223++l1)) else (none))=some (r1,r2):=by first|(rw [hy223];with_reducible exact H)|(have H2_:=(Option.bind_some _ _).symm.trans H;rw [hy223];with_reducible exact H2_)|(have H2_:=(Option.bind_some _ _).symm.trans H;with_reducible exact H2_)|with_reducible exact H|(rw [hy223];exact H)|exact H
 have Ny223:=Aside0.mk hy223
 clear hy223
 by_cases c3:y223.length+l1.length<4398046511104
 ·rw [if_pos c3] at H
  have LMc3:=Aside0.mk c3
  clear c3
  obtain ⟨y226,hy226⟩:∃ y_:List (S46),y_=(y223++l1):=⟨_,rfl⟩
  replace H:(spec_l2Full.l0 k l0 y220 y226)=some (r1,r2):=by first|(rw [hy226];with_reducible exact H)|(have H2_:=(Option.bind_some _ _).symm.trans H;rw [hy226];with_reducible exact H2_)|(have H2_:=(Option.bind_some _ _).symm.trans H;with_reducible exact H2_)|with_reducible exact H|(rw [hy226];exact H)|exact H
  have Ny226:=Aside0.mk hy226
  clear hy226
  have H':=Aside0.mk H
  clear H
  go_enter Tryd.func73,Tryd.ntmps73
  go_wp2_with (first|((with_reducible refine gate_dst (N:=10) rfl ?_);refine Kd.R_lit k46 _ 46 ?hg (N:=10) ?hd (xs:=([]:List (S46))) (inner:=[]) (ok:=fun _=>True) (okp:=fun _=>True) ?hr ?hp (fun _ hk=>hk) trivial (Below.refl _ _) (Nat.le_refl _) (by simp) ?_;(case hd=>rfl);(case hg=>rfl);(case hr=>first|(go_simp;done)|(go_simp;rfl));(case hp=>exact (Reps.none _ _));intro v221 w4 ho5 hb hg_ hnew_;clear hg_ hnew_;(first|rw [← Ny220.out] at ho5|(simp only [Int.reduceToNat] at ho5;rw [← Ny220.out] at ho5));have n0_:=Aside0.mk (Kd.R_lower ho5 (below_size qz4));have n1_:=Aside0.mk (below_step qz4 hb);clear HB;have HO222:=n0_;have HB:=n1_;clear n0_ n1_ hb ho5)|((with_reducible refine gate_dst (N:=11) rfl ?_);refine Kd.R_lit k46 _ 46 ?hg (N:=11) ?hd (xs:=([]:List (S46))) (inner:=[]) (ok:=fun _=>True) (okp:=fun _=>True) ?hr ?hp (fun _ hk=>hk) trivial (Below.refl _ _) (Nat.le_refl _) (by simp) ?_;(case hd=>rfl);(case hg=>rfl);(case hr=>first|(go_simp;done)|(go_simp;rfl));(case hp=>exact (Reps.none _ _));intro v224 w6 ho7 hb hg_ hnew_;clear hg_ hnew_;(first|rw [← Ny223.out] at ho7|(simp only [Int.reduceToNat] at ho7;rw [← Ny223.out] at ho7));have n0_:=Aside0.mk (Kd.R_elder' qz74 (Kd.R_base ho7) hb);have n1_:=Aside0.mk (Kd.R_lower (Kd.R_new' ho7 (Kd.R_lt qz74)) (below_size qz4));have n2_:=Aside0.mk (below_step qz4 hb);clear HO222 HB;have HO222:=n0_;have HO225:=n1_;have HB:=n2_;clear n0_ n1_ n2_ hb ho7)|((with_reducible refine gate_builtin (b:=.append) (xs:=#[.tmp 11,.tmp 12]) rfl ?_);at_builtin;refine Kd.R_append_rows k46 (w0:=w) w.heap.size rfl (.tmp 11) (.tmp 12) 26 46 (.agg #[(.int .i64 0),(.int .i64 0),(.string ⟨#[]⟩)]) 32 rfl Tryd.underlying26 info46 rfl (by decide) (by omega) v224 y223 l1 _ _ _ (fun k_=>some k_≠(v221:Value).ownBlock) (fun _=>False) rfl rfl ?aO ?aR (fun _ _ h=>h) (fun _ h=>h.elim) ?aF ?aB ?aS ?aL ?_;(case aR=>exact qz53);(case aB=>exact qz4);(case aF=>exact (fun k_ hk=>Kd.fresh' (Kd.R_lt qz74) k_ hk));(case aO=>(with_reducible repeat (first|apply Kd.R_alloc|apply Kd.R_drewN|apply Kd.R_drew));exact Kd.R_mono HO225.out (fun _ hk=>hk.2));(case aS=>exact (below_size qz4));(case aL=>have:=LMc3.out;omega);intro v227 w8 ho hb hg hat;rw [← Ny226.out] at ho;have n0_:=Aside0.mk (Kd.R_after (ok:=(fun _=>True)) qz74 hg hat);have n1_:=Aside0.mk (hb);have n2_:=Aside0.mk (ho);clear HO222 HB HO225;have HO222:=n0_;have HB:=n1_;have HO228:=n2_;clear n0_ n1_ n2_ ho hb hg hat))
  go_loopg [6,7] k (fun kq v6 v7 w'=>∃ (x6_1:List (S46)) (x7_1:List (S46)),Aside0 (spec_l2Full.l0 kq l0 x6_1 x7_1=some (r1,r2))∧Aside0 (kq≤k)∧Aside0 (Kd.R k46 46 w' w.heap.size (fun k_=>some k_≠(v7:Value).ownBlock) v6 x6_1)∧Aside0 (Kd.Q k46 46 w' w.heap.size (fun k_=>some k_≠(v6:Value).ownBlock) v7 x7_1)∧Aside0 (Below w.heap.size w w'))
  case atStart=>exact ⟨(y220),(y226),H',⟨Nat.le_refl _⟩,⟨by (with_reducible repeat (first|apply Kd.R_alloc|apply Kd.R_drewN|apply Kd.R_drew));exact Kd.R_mono HO222.out (fun _ hk=>hk.2)⟩,⟨Kd.Q_of_R (by (with_reducible repeat (first|apply Kd.R_alloc|apply Kd.R_drewN|apply Kd.R_drew));exact HO228.out)⟩,⟨qz5⟩⟩
  case round=>
   clear H'
   try clear c1
   try clear p2
   try clear c3
   try clear c7
   obtain ⟨x6_1,x7_1,HA,HK1,HO_6,HO_7,HB⟩:=hrel
   cases gk with
   | zero=>exact absurd HA.out (by simp [spec_l2Full.l0])
   | succ k1=>
    have H:=HA.out
    clear HA
    simp only [spec_l2Full.l0] at H
    by_cases c9:(x7_1.length:Int) > 0
    ·rw [if_pos c9] at H
     have c9b0:decide (0<(x7_1.length:Int))=true:=decide_eq_true c9
     have c9b1:decide (0<x7_1.length)=true:=decide_eq_true (by omega)
     clear c9
     by_cases c10:0<(x7_1.length:Int)
     ·rw [if_pos c10] at H
      have c10b0:decide (0<(x7_1.length:Int))=true:=decide_eq_true c10
      have c10b1:decide (0<x7_1.length)=true:=decide_eq_true (by omega)
      clear c10
      by_cases c11:1≤(x7_1.length:Int)
      ·rw [if_pos c11] at H
       have c11b0:=eq_true c11
       have c11b1:decide (1≤(x7_1.length:Int))=true:=decide_eq_true c11
       clear c11
       obtain ⟨y231,hy231⟩:∃ y_:List (S46),y_=(x7_1.drop (1:Int).toNat):=⟨_,rfl⟩
       replace H:(if ((rd_T46 x7_1 0).f0)=1 then ((spec_l2Get.f k1 l0 ((rd_T46 x7_1 0).f1)).bind fun t237=>(spec_l2Full.j1 k1 l0 x6_1 y231 t237 ((rd_T46 x7_1 0).f0) ((rd_T46 x7_1 0).f1) ((rd_T46 x7_1 0).f2))) else (spec_l2Full.j1 k1 l0 x6_1 y231 (([]:List (S46))) ((rd_T46 x7_1 0).f0) ((rd_T46 x7_1 0).f1) ((rd_T46 x7_1 0).f2)))=some (r1,r2):=by first|(rw [hy231];with_reducible exact H)|(have H2_:=(Option.bind_some _ _).symm.trans H;rw [hy231];with_reducible exact H2_)|(have H2_:=(Option.bind_some _ _).symm.trans H;with_reducible exact H2_)|with_reducible exact H|(rw [hy231];exact H)|exact H
       have Ny231:=Aside0.mk hy231
       clear hy231
       obtain ⟨y234,hy234⟩:∃ y_:List (S46),y_=(([]:List (S46))):=⟨_,rfl⟩
       replace H:(if ((rd_T46 x7_1 0).f0)=1 then ((spec_l2Get.f k1 l0 ((rd_T46 x7_1 0).f1)).bind fun t237=>(spec_l2Full.j1 k1 l0 x6_1 y231 t237 ((rd_T46 x7_1 0).f0) ((rd_T46 x7_1 0).f1) ((rd_T46 x7_1 0).f2))) else (spec_l2Full.j1 k1 l0 x6_1 y231 y234 ((rd_T46 x7_1 0).f0) ((rd_T46 x7_1 0).f1) ((rd_T46 x7_1 0).f2)))=some (r1,r2):=by first|(rw [hy234];with_reducible exact H)|(have H2_:=(Option.bind_some _ _).symm.trans H;rw [hy234];with_reducible exact H2_)|(have H2_:=(Option.bind_some _ _).symm.trans H;with_reducible exact H2_)|with_reducible exact H|(rw [hy234];exact H)|exact H
       have Ny234:=Aside0.mk hy234
       clear hy234
       have HC12:=Aside0.mk H
       clear H
       obtain ⟨Ao13,co13,eo13,_⟩:=Kd.Q_slice HO_7.out
       subst eo13
       have p229:0≤(0:Int):=(by omega)
       have q229:0<(x7_1.length:Int):=of_decide_eq_true qz6
       obtain ⟨ad229,e229,hx229_0,hx229_1,hx229_2⟩:=at_T46 (Kd.Q_reads' HO_7.out).2.2 0 p229 q229
       cases e229
       have qi229:(0<x7_1.length)=True:=eq_true (by omega)
       (try rw [show ((0:Int)).toNat=0 from rfl] at hx229_0)
       (try rw [show 0 * 3=0 from rfl] at hx229_0)
       (try rw [Addr.add_zero'] at hx229_0)
       (try rw [show ((0:Int)).toNat=0 from rfl] at hx229_1)
       (try rw [show 0 * 3=0 from rfl] at hx229_1)
       (try rw [Addr.add_zero'] at hx229_1)
       (try rw [show ((0:Int)).toNat=0 from rfl] at hx229_2)
       (try rw [show 0 * 3=0 from rfl] at hx229_2)
       (try rw [Addr.add_zero'] at hx229_2)
       replace p229:=eq_true p229
       replace q229:=eq_true q229
       go_upto_if 25 with (first|((with_reducible refine gate_dst (N:=8) rfl ?_);refine box_event ?hg (N:=8) ?hd (cs:=#[.int .i64 0,.int .i64 0,.string (⟨#[]⟩:ByteArray)]) (t:=46) ?hr ?_;(case hd=>rfl);(case hg=>rfl);(case hr=>first|(go_simp;done)|(go_simp;rfl));intro gb230 hg w14 hbox hb;have n0_:=Aside0.mk (Kd.R_below (Kd.R_elderB qz10 gb230 (Nat.le_of_eq hg.symm)) hb);have n1_:=Aside0.mk (Kd.Q_below (Kd.Q_elderB qz23 gb230 (Nat.le_of_eq hg.symm)) hb);have n2_:=Aside0.mk (below_step qz4 hb);have n3_:=Aside0.mk (hbox);have n4_:=Aside0.mk ((by rw [hg];exact (below_size qz4):w.heap.size≤gb230));have n5_:=Aside0.mk ((by rw [hg];exact (below_size qz4):w.heap.size≤gb230));clear HO_6 HO_7 HB;have HO_6:=n0_;have HO_7:=n1_;have HB:=n2_;have BK230:=n3_;have GW230:=n4_;have GE230:=n5_;clear n0_ n1_ n2_ n3_ n4_ n5_ hb hbox hg;have hcz15_0:w14.cell? ⟨gb230,0,none⟩=some (.int .i64 0):=(blk_cell BK230.out 0).trans rfl;have hcz15_1:w14.cell? ⟨gb230,1,none⟩=some (.int .i64 0):=(blk_cell BK230.out 1).trans rfl;have hcz15_2:w14.cell? ⟨gb230,2,none⟩=some (.string (⟨#[]⟩:ByteArray)):=(blk_cell BK230.out 2).trans rfl;have hfz15_0:=blk_frozen BK230.out 0;have hfz15_1:=blk_frozen BK230.out 1;have hfz15_2:=blk_frozen BK230.out 2)|((with_reducible refine gate_store (t:=46) (p:=8) rfl ?_);refine store_event (t:=46) (p:=8) (v:=?vo_w16) (w1:=(((w14.setCell ⟨gb230,0,none⟩ (.int .i64 ((rd_T46 x7_1 0).f0))).setCell ⟨gb230,1,none⟩ (.int .i64 ((rd_T46 x7_1 0).f1))).setCell ⟨gb230,2,none⟩ (.string ((rd_T46 x7_1 0).f2)))) ?hg ?ho ?hn ?hr ?_;(case ho=>rfl);(case hg=>rfl);(case hn=>rfl);(case hr=>first|(go_simp;done)|(go_simp;rfl));intro w16 hw;have n0_:Aside0 (Kd.R k46 46 w16 w.heap.size (fun k_=>some k_≠(.slice (some ad229) x7_1.length co13:Value).ownBlock∧k_≠gb230) u6 x6_1):=⟨(by rw [hw];exact (by (with_reducible repeat (first|apply Kd.R_alloc|apply Kd.R_drewN|apply Kd.R_drew));exact Kd.R_mono (Kd.R_far (p:=⟨gb230,2,none⟩) (Kd.R_far (p:=⟨gb230,1,none⟩) (Kd.R_far (p:=⟨gb230,0,none⟩) (Kd.R_mono HO_6.out (fun k_ hk=>(⟨hk,hk.2⟩:_∧k_≠gb230))) (fun _ hk=>hk.2) (.int .i64 ((rd_T46 x7_1 0).f0))) (fun _ hk=>hk.2) (.int .i64 ((rd_T46 x7_1 0).f1))) (fun _ hk=>hk.2) (.string ((rd_T46 x7_1 0).f2))) (fun _ hk=>⟨hk.1.1,hk.1.2⟩)))⟩;have n1_:Aside0 (Kd.Q k46 46 w16 w.heap.size (fun k_=>some k_≠(u6:Value).ownBlock∧k_≠gb230) (.slice (some ad229) x7_1.length co13) x7_1):=⟨(by rw [hw];exact (by (with_reducible repeat (first|apply Kd.Q_alloc|apply Kd.Q_drewN|apply Kd.Q_drew));exact Kd.Q_mono (Kd.Q_far (p:=⟨gb230,2,none⟩) (Kd.Q_far (p:=⟨gb230,1,none⟩) (Kd.Q_far (p:=⟨gb230,0,none⟩) (Kd.Q_mono HO_7.out (fun k_ hk=>(⟨hk,hk.2⟩:_∧k_≠gb230))) (fun _ hk=>hk.2) (.int .i64 ((rd_T46 x7_1 0).f0))) (fun _ hk=>hk.2) (.int .i64 ((rd_T46 x7_1 0).f1))) (fun _ hk=>hk.2) (.string ((rd_T46 x7_1 0).f2))) (fun _ hk=>⟨hk.1.1,hk.1.2⟩)))⟩;have n2_:Aside0 (w16.heap[gb230]?=some (.cells #[.int .i64 ((rd_T46 x7_1 0).f0),.int .i64 ((rd_T46 x7_1 0).f1),.string ((rd_T46 x7_1 0).f2)] 46 (0,0))):=⟨(by rw [hw];exact (by (with_reducible repeat (first|refine blk_drewN ?_ _|refine blk_drew ?_|refine blk_alloc ?_ _));refine blk_put (cs:=#[.int .i64 ((rd_T46 x7_1 0).f0),.int .i64 ((rd_T46 x7_1 0).f1),.string (⟨#[]⟩:ByteArray)]) ?_ 2 _ rfl;(with_reducible repeat (first|refine blk_drewN ?_ _|refine blk_drew ?_|refine blk_alloc ?_ _));refine blk_put (cs:=#[.int .i64 ((rd_T46 x7_1 0).f0),.int .i64 0,.string (⟨#[]⟩:ByteArray)]) ?_ 1 _ rfl;(with_reducible repeat (first|refine blk_drewN ?_ _|refine blk_drew ?_|refine blk_alloc ?_ _));refine blk_put (cs:=#[.int .i64 0,.int .i64 0,.string (⟨#[]⟩:ByteArray)]) ?_ 0 _ rfl;(with_reducible repeat (first|refine blk_drewN ?_ _|refine blk_drew ?_|refine blk_alloc ?_ _));exact BK230.out))⟩;have n3_:Aside0 (Below w.heap.size w w16):=⟨(by rw [hw];exact qz8)⟩;clear hw HO_6 HO_7 BK230 HB;have HO_6:=n0_;have HO_7:=n1_;have BK230:=n2_;have HB:=n3_;clear n0_ n1_ n2_ n3_;have q17:(1:Int)≤((x7_1.length:Int):Int):=of_decide_eq_true qz6;obtain ⟨i017,hi017,_,hsz17,_⟩:=info_parts info46;have hcut17:=cut_from (P:=Tryd.prog) 26 46 .i64 Tryd.underlying26 hi017 3 hsz17 (some ad229) x7_1.length co13 1 (by omega) q17;have hr17:=Kd.Q_drop (k:=(1:Int).toNat) HO_7.out (by omega);obtain ⟨A17,hA17⟩:∃ A1,A1=(if co13=(1:Int).toNat then (some ad229) else ((some ad229):Option Addr).map (·.add ((1:Int).toNat * 3))):=⟨_,rfl⟩;obtain ⟨c17,hc17⟩:∃ c1,c1=co13 - (1:Int).toNat:=⟨_,rfl⟩;have hy17:y231.length=x7_1.length - (1:Int).toNat:=(by rw [Ny231.out,List.length_drop]);rw [← Ny231.out] at hr17;rw [← hy17,← hA17,← hc17] at hcut17;replace hr17:Kd.Q k46 46 w16 w.heap.size (fun k_=>some k_≠(u6:Value).ownBlock∧k_≠gb230) (.slice A17 y231.length c17) y231:=(by rw [hA17,hc17,hy17];exact hr17);have HE17:Aside0 ((Value.slice A17 y231.length c17).ownBlock=(.slice (some ad229) x7_1.length co13:Value).ownBlock):=⟨by rw [hA17];split <;> (cases ((some ad229):Option Addr) <;> rfl)⟩;clear hy17 hi017 hsz17 HO_7 hA17 hc17;have HO233:=Aside0.mk hr17;clear hr17;replace q17:=eq_true q17;have n_:=Aside0.mk (Kd.R_mono (ok':=fun k_=>(some k_≠(.slice A17 y231.length c17:Value).ownBlock∧k_≠gb230)) HO_6.out (fun k_ hk=>⟨(by rw [HE17.out];exact hk.1),hk.2⟩));clear HO_6;have HO_6:=n_;clear n_)|((with_reducible refine gate_dst (N:=22) rfl ?_);refine Kd.R_lit k46 _ 46 ?hg (N:=22) ?hd (xs:=([]:List (S46))) (inner:=[]) (ok:=fun _=>True) (okp:=fun _=>True) ?hr ?hp (fun _ hk=>hk) trivial (Below.refl _ _) (Nat.le_refl _) (by simp) ?_;(case hd=>rfl);(case hg=>rfl);(case hr=>first|(go_simp;done)|(go_simp;rfl));(case hp=>exact (Reps.none _ _));intro v235 w18 ho19 hb hg_ hnew_;clear hg_ hnew_;(first|rw [← Ny234.out] at ho19|(simp only [Int.reduceToNat] at ho19;rw [← Ny234.out] at ho19));have n0_:=Aside0.mk (Kd.R_elder' qz10 (Kd.R_base ho19) hb);have n1_:=Aside0.mk (Kd.Q_elder' qz75 (Kd.R_base ho19) hb);have n2_:=Aside0.mk (Kd.R_lower (Kd.R_newB (Kd.R_new' (Kd.R_new' ho19 (Kd.R_lt qz10)) (Kd.Q_lt qz75)) (g:=gb230) (o:=.cells #[.int .i64 ((rd_T46 x7_1 0).f0),.int .i64 ((rd_T46 x7_1 0).f1),.string ((rd_T46 x7_1 0).f2)] 46 (0,0)) qz12) (below_size qz8));have n3_:=Aside0.mk (blk_below (g:=gb230) (o:=.cells #[.int .i64 ((rd_T46 x7_1 0).f0),.int .i64 ((rd_T46 x7_1 0).f1),.string ((rd_T46 x7_1 0).f2)] 46 (0,0)) qz12 hb);have n4_:=Aside0.mk (below_step qz8 hb);clear HO_6 HO233 BK230 HB;have HO_6:=n0_;have HO233:=n1_;have HO236:=n2_;have BK230:=n3_;have HB:=n4_;clear n0_ n1_ n2_ n3_ n4_ hb ho19;have hcz20_0:w18.cell? ⟨gb230,0,none⟩=some (.int .i64 ((rd_T46 x7_1 0).f0)):=(blk_cell BK230.out 0).trans rfl;have hcz20_1:w18.cell? ⟨gb230,1,none⟩=some (.int .i64 ((rd_T46 x7_1 0).f1)):=(blk_cell BK230.out 1).trans rfl;have hcz20_2:w18.cell? ⟨gb230,2,none⟩=some (.string ((rd_T46 x7_1 0).f2)):=(blk_cell BK230.out 2).trans rfl;have hfz20_0:=blk_frozen BK230.out 0;have hfz20_1:=blk_frozen BK230.out 1;have hfz20_2:=blk_frozen BK230.out 2))
       (try simp only [Act.put,List.setIfInBounds_toArray,List.set_cons_zero,List.set_cons_succ])
       go_cut [9] (fun v9 wc=>∃ (kq:Nat) (x9_11:List (S46)),Aside0 (spec_l2Full.j1 kq l0 x6_1 y231 x9_11 ((rd_T46 x7_1 0).f0) ((rd_T46 x7_1 0).f1) ((rd_T46 x7_1 0).f2)=some (r1,r2))∧Aside0 (kq≤k1)∧Aside0 (Kd.R k46 46 wc w.heap.size (fun k_=>some k_≠((.slice A17 y231.length c17):Value).ownBlock∧k_≠gb230) u6 x6_1)∧Aside0 (Kd.Q k46 46 wc w.heap.size (fun k_=>some k_≠(u6:Value).ownBlock∧k_≠gb230) (.slice A17 y231.length c17) y231)∧Aside0 (Kd.V k46 46 wc w.heap.size (fun k_=>some k_≠(u6:Value).ownBlock∧some k_≠((.slice A17 y231.length c17):Value).ownBlock∧k_≠gb230) v9 x9_11)∧Aside0 (wc.heap[gb230]?=some (.cells #[.int .i64 ((rd_T46 x7_1 0).f0),.int .i64 ((rd_T46 x7_1 0).f1),.string ((rd_T46 x7_1 0).f2)] 46 (0,0)))∧Aside0 (Below w.heap.size w wc))
       case first=>
        have H:=HC12.out
        clear HC12
        by_cases c21:((rd_T46 x7_1 0).f0)=1
        ·rw [if_pos c21] at H
         have c21b0:(((rd_T46 x7_1 0).f0) == 1)=true:=beq_iff_eq.mpr c21
         have c21b1:(((rd_T46 x7_1 0).f0) != 1)=false:=bne_eq_false_iff_eq.mpr c21
         clear c21
         (first|rw [c21b0]|(simp only [i64_w,i32_w];rw [c21b0])|skip)
         replace H:=Option.bind_eq_some_iff.mp H
         obtain ⟨t237,A220,H⟩:=H
         replace H:(spec_l2Full.j1 k1 l0 x6_1 y231 t237 ((rd_T46 x7_1 0).f0) ((rd_T46 x7_1 0).f1) ((rd_T46 x7_1 0).f2))=some (r1,r2):=H
         have A22:=Aside0.mk A220
         clear A220
         have H':=Aside0.mk H
         clear H
         have hcz23_0:w18.cell? ⟨gb230,0,none⟩=some (.int .i64 ((rd_T46 x7_1 0).f0)):=(blk_cell BK230.out 0).trans rfl
         have hcz23_1:w18.cell? ⟨gb230,1,none⟩=some (.int .i64 ((rd_T46 x7_1 0).f1)):=(blk_cell BK230.out 1).trans rfl
         have hcz23_2:w18.cell? ⟨gb230,2,none⟩=some (.string ((rd_T46 x7_1 0).f2)):=(blk_cell BK230.out 2).trans rfl
         have hfz23_0:=blk_frozen BK230.out 0
         have hfz23_1:=blk_frozen BK230.out 1
         have hfz23_2:=blk_frozen BK230.out 2
         go_wp2_with (first|((with_reducible refine gate_callee (f:=92) rfl ?_);refine goesL_ (some 29) rfl rfl Tryd.func92 (by kernel_rfl) rfl #[.slice A0 l0.length c0,.int .i64 ((rd_T46 x7_1 0).f1)] rfl qz24 ?_;(with_reducible refine (spec_l2Get.calls k1 (fun k_=>k_<w.heap.size) _ _ l0 ((rd_T46 x7_1 0).f1) t237 _ ?side1 A22.out).mono ?_);(case side1=>exact Kd.V_mk HC0.out (Kd.F_below (Kd.C_F k30_heap HR0.out) qz8));rintro e w24 ⟨v238,rfl,ho0,hb⟩;refine ⟨_,rfl,?_⟩;have n0_:=Aside0.mk (Kd.R_below qz10 hb);have n1_:=Aside0.mk (Kd.Q_below qz75 hb);have n2_:=Aside0.mk (Kd.R_below (by (with_reducible repeat (first|apply Kd.R_alloc|apply Kd.R_drewN|apply Kd.R_drew));exact HO236.out) hb);have n3_:=Aside0.mk (Kd.V_lower (Kd.V_mono (ok':=fun k_=>some k_≠(u6:Value).ownBlock∧some k_≠(.slice A17 y231.length c17:Value).ownBlock∧some k_≠(v235:Value).ownBlock∧k_≠gb230) ho0 (fun k_ hk_=>⟨Or.elim hk_ (fun hs_=>fun e_=>Nat.not_le.2 hs_ (Kd.R_base HO_6.out k_ e_.symm)) (fun hn_=>(Kd.fresh' (Kd.R_lt qz10) k_ hn_)),Or.elim hk_ (fun hs_=>fun e_=>Nat.not_le.2 hs_ (Kd.Q_base HO233.out k_ e_.symm)) (fun hn_=>(Kd.fresh' (Kd.Q_lt qz75) k_ hn_)),Or.elim hk_ (fun hs_=>fun e_=>Nat.not_le.2 hs_ (Kd.R_base HO236.out k_ e_.symm)) (fun hn_=>(Kd.fresh' (Kd.R_lt (by (with_reducible repeat (first|apply Kd.R_alloc|apply Kd.R_drewN|apply Kd.R_drew));exact HO236.out)) k_ hn_)),Or.elim hk_ (fun hs_=>fun e_=>Nat.not_le.2 hs_ (by rw [e_];exact GW230.out)) (fun hn_=>(Kd.freshB (g:=gb230) (o:=.cells #[.int .i64 ((rd_T46 x7_1 0).f0),.int .i64 ((rd_T46 x7_1 0).f1),.string ((rd_T46 x7_1 0).f2)] 46 (0,0)) qz12 k_ hn_))⟩)) (below_size qz8));have n4_:=Aside0.mk (blk_below (g:=gb230) (o:=.cells #[.int .i64 ((rd_T46 x7_1 0).f0),.int .i64 ((rd_T46 x7_1 0).f1),.string ((rd_T46 x7_1 0).f2)] 46 (0,0)) qz12 hb);have n5_:=Aside0.mk (below_step qz8 hb);clear HO_6 HO233 HO236 BK230 HB;have HO_6:=n0_;have HO233:=n1_;have HO236:=n2_;have HO239:=n3_;have BK230:=n4_;have HB:=n5_;clear n0_ n1_ n2_ n3_ n4_ n5_;(try clear hb);(try clear hb2);(try clear hk);(try clear hi);(try clear ho0)))
         go_meet
         case rel=>exact ⟨_,(t237),H',⟨qz67⟩,⟨qz107⟩,⟨qz106⟩,⟨by (with_reducible repeat (first|apply Kd.V_alloc|apply Kd.V_drewN|apply Kd.V_drew));exact Kd.V_mono HO239.out (fun _ hk=>⟨hk.1,⟨hk.2.1,hk.2.2.2⟩⟩)⟩,⟨qz12⟩,⟨qz8⟩⟩
        ·rw [if_neg c21] at H
         have c21b0:(((rd_T46 x7_1 0).f0) == 1)=false:=beq_eq_false_iff_ne.mpr c21
         have c21b1:(((rd_T46 x7_1 0).f0) != 1)=true:=bne_iff_ne.mpr c21
         (first|rw [c21b0]|(simp only [i64_w,i32_w];rw [c21b0])|skip)
         have H':=Aside0.mk H
         clear H
         go_wp2
         go_meet
         case rel=>exact ⟨_,(y234),H',⟨qz67⟩,⟨qz107⟩,⟨qz106⟩,⟨Kd.R_V (by (with_reducible repeat (first|apply Kd.R_alloc|apply Kd.R_drewN|apply Kd.R_drew));exact Kd.R_mono HO236.out (fun _ hk=>⟨hk.1.1.2,⟨hk.1.2,hk.2⟩⟩))⟩,⟨qz12⟩,⟨qz8⟩⟩
       case rest=>
        clear HC12
        try clear c1
        try clear q1
        try clear c2
        try clear p2
        try clear q2
        try clear hx2
        try clear qi2
        try clear c3
        try clear c7
        try clear c9
        try clear c9b0
        try clear c9b1
        try clear c10
        try clear c10b0
        try clear c10b1
        try clear c11
        try clear c11b0
        try clear c11b1
        try clear c17
        try clear q17
        try clear c21
        try clear c21b0
        try clear c21b1
        try clear p22
        try clear q22
        try clear hx22
        try clear qi22
        try clear hcz15_0
        try clear hcz15_1
        try clear hcz15_2
        try clear hcz20_0
        try clear hcz20_1
        try clear hcz20_2
        try clear hcz23_0
        try clear hcz23_1
        try clear hcz23_2
        try clear hfz15_0
        try clear hfz15_1
        try clear hfz15_2
        try clear hfz20_0
        try clear hfz20_1
        try clear hfz20_2
        try clear hfz23_0
        try clear hfz23_1
        try clear hfz23_2
        try clear hx229_0
        try clear hx229_1
        try clear hx229_2
        try clear p2
        try clear p229
        try clear q17
        try clear q229
        obtain ⟨kq,x9_11,HA,HJ11,HO_6,HO_7,HO_9,BK230,HB⟩:=hcut
        cases kq with
        | zero=>exact absurd HA.out (by simp [spec_l2Full.j1])
        | succ kj11=>
         have H:=HA.out
         clear HA
         simp only [spec_l2Full.j1] at H
         by_cases c25:(x9_11.length:Int) > 0
         ·rw [if_pos c25] at H
          have c25b0:decide (0<(x9_11.length:Int))=true:=decide_eq_true c25
          have c25b1:decide (0<x9_11.length)=true:=decide_eq_true (by omega)
          clear c25
          obtain ⟨y240,hy240⟩:∃ y_:List (S46),y_=(([]:List (S46))):=⟨_,rfl⟩
          replace H:(if y240.length+x9_11.length<4398046511104 then ((some (y240++x9_11:List (S46))).bind fun y243=>(if y243.length+y231.length<4398046511104 then ((some (y243++y231:List (S46))).bind fun y246=>(if (wrap64 ((x6_1.length:Int)+(y246.length:Int))) > 40 then (some ((([]:List (S46))),false)) else (spec_l2Full.l0 kj11 l0 x6_1 y246))) else (none))) else (none))=some (r1,r2):=by first|(rw [hy240];with_reducible exact H)|(have H2_:=(Option.bind_some _ _).symm.trans H;rw [hy240];with_reducible exact H2_)|(have H2_:=(Option.bind_some _ _).symm.trans H;with_reducible exact H2_)|with_reducible exact H|(rw [hy240];exact H)|exact H
          have Ny240:=Aside0.mk hy240
          clear hy240
          by_cases c26:y240.length+x9_11.length<4398046511104
          ·rw [if_pos c26] at H
           have LMc26:=Aside0.mk c26
           clear c26
           obtain ⟨y243,hy243⟩:∃ y_:List (S46),y_=(y240++x9_11):=⟨_,rfl⟩
           replace H:(if y243.length+y231.length<4398046511104 then ((some (y243++y231:List (S46))).bind fun y246=>(if (wrap64 ((x6_1.length:Int)+(y246.length:Int))) > 40 then (some ((([]:List (S46))),false)) else (spec_l2Full.l0 kj11 l0 x6_1 y246))) else (none))=some (r1,r2):=by first|(rw [hy243];with_reducible exact H)|(have H2_:=(Option.bind_some _ _).symm.trans H;rw [hy243];with_reducible exact H2_)|(have H2_:=(Option.bind_some _ _).symm.trans H;with_reducible exact H2_)|with_reducible exact H|(rw [hy243];exact H)|exact H
           have Ny243:=Aside0.mk hy243
           clear hy243
           by_cases c27:y243.length+y231.length<4398046511104
           ·rw [if_pos c27] at H
            have LMc27:=Aside0.mk c27
            clear c27
            obtain ⟨y246,hy246⟩:∃ y_:List (S46),y_=(y243++y231):=⟨_,rfl⟩
            replace H:(if (wrap64 ((x6_1.length:Int)+(y246.length:Int))) > 40 then (some ((([]:List (S46))),false)) else (spec_l2Full.l0 kj11 l0 x6_1 y246))=some (r1,r2):=by first|(rw [hy246];with_reducible exact H)|(have H2_:=(Option.bind_some _ _).symm.trans H;rw [hy246];with_reducible exact H2_)|(have H2_:=(Option.bind_some _ _).symm.trans H;with_reducible exact H2_)|with_reducible exact H|(rw [hy246];exact H)|exact H
            have Ny246:=Aside0.mk hy246
            clear hy246
            by_cases c28:(wrap64 ((x6_1.length:Int)+(y246.length:Int))) > 40
            ·rw [if_pos c28] at H
             have c28b0:decide (40<(wrap64 ((x6_1.length:Int)+(y246.length:Int))))=true:=decide_eq_true c28
             clear c28
             obtain ⟨y249,hy249⟩:∃ y_:List (S46),y_=(([]:List (S46))):=⟨_,rfl⟩
             replace H:(some (y249,false))=some (r1,r2):=by first|(rw [hy249];with_reducible exact H)|(have H2_:=(Option.bind_some _ _).symm.trans H;rw [hy249];with_reducible exact H2_)|(have H2_:=(Option.bind_some _ _).symm.trans H;with_reducible exact H2_)|with_reducible exact H|(rw [hy249];exact H)|exact H
             have Ny249:=Aside0.mk hy249
             clear hy249
             simp only [Option.some.injEq,Prod.mk.injEq] at H
             obtain ⟨rfl,rfl⟩:=H
             obtain ⟨Ao29,co29,eo29⟩:=Kd.V_slice HO_9.out
             subst eo29
             go_wp2_with (first|((with_reducible refine gate_dst (N:=33) rfl ?_);refine Kd.R_lit k46 _ 46 ?hg (N:=33) ?hd (xs:=([]:List (S46))) (inner:=[]) (ok:=fun _=>True) (okp:=fun _=>True) ?hr ?hp (fun _ hk=>hk) trivial (Below.refl _ _) (Nat.le_refl _) (by simp) ?_;(case hd=>rfl);(case hg=>rfl);(case hr=>first|(go_simp;done)|(go_simp;rfl));(case hp=>exact (Reps.none _ _));intro v241 w30 ho31 hb hg_ hnew_;clear hg_ hnew_;(first|rw [← Ny240.out] at ho31|(simp only [Int.reduceToNat] at ho31;rw [← Ny240.out] at ho31));have n0_:=Aside0.mk (Kd.R_elder' qz10 (Kd.R_base ho31) hb);have n1_:=Aside0.mk (Kd.Q_elder' qz23 (Kd.R_base ho31) hb);have n2_:=Aside0.mk (Kd.V_elder' qz52 (Kd.R_base ho31) hb);have n3_:=Aside0.mk (Kd.R_lower (Kd.R_newB (Kd.R_new' (Kd.R_new' ho31 (Kd.R_lt qz10)) (Kd.Q_lt qz23)) (g:=gb230) (o:=.cells #[.int .i64 ((rd_T46 x7_1 0).f0),.int .i64 ((rd_T46 x7_1 0).f1),.string ((rd_T46 x7_1 0).f2)] 46 (0,0)) qz12) (below_size qz8));have n4_:=Aside0.mk (blk_below (g:=gb230) (o:=.cells #[.int .i64 ((rd_T46 x7_1 0).f0),.int .i64 ((rd_T46 x7_1 0).f1),.string ((rd_T46 x7_1 0).f2)] 46 (0,0)) qz12 hb);have n5_:=Aside0.mk (below_step qz8 hb);clear HO_6 HO_7 HO_9 BK230 HB;have HO_6:=n0_;have HO_7:=n1_;have HO_9:=n2_;have HO242:=n3_;have BK230:=n4_;have HB:=n5_;clear n0_ n1_ n2_ n3_ n4_ n5_ hb ho31)|((with_reducible refine gate_builtin (b:=.append) (xs:=#[.tmp 33,.tmp 34]) rfl ?_);at_builtin;refine Kd.R_append_rows k46 (w0:=w) w.heap.size rfl (.tmp 33) (.tmp 34) 26 46 (.agg #[(.int .i64 0),(.int .i64 0),(.string ⟨#[]⟩)]) 32 rfl Tryd.underlying26 info46 rfl (by decide) (by omega) v241 y240 x9_11 _ _ _ (fun k_=>some k_≠(u6:Value).ownBlock∧some k_≠(.slice A17 y231.length c17:Value).ownBlock∧k_≠gb230) (fun _=>False) rfl rfl ?aO ?aR (fun _ _ h=>h) (fun _ h=>h.elim) ?aF ?aB ?aS ?aL ?_;(case aR=>exact qz98);(case aB=>exact qz8);(case aF=>exact (fun k_ hk=>⟨Kd.fresh' (Kd.R_lt qz10) k_ hk,Kd.fresh' (Kd.Q_lt qz23) k_ hk,Kd.freshB (g:=gb230) (o:=.cells #[.int .i64 ((rd_T46 x7_1 0).f0),.int .i64 ((rd_T46 x7_1 0).f1),.string ((rd_T46 x7_1 0).f2)] 46 (0,0)) qz12 k_ hk⟩));(case aO=>exact qz103);(case aS=>exact (below_size qz8));(case aL=>have:=LMc26.out;omega);intro v244 w32 ho hb hg hat;rw [← Ny243.out] at ho;have n0_:=Aside0.mk (Kd.R_after (ok:=(fun k_=>some k_≠(.slice A17 y231.length c17:Value).ownBlock∧k_≠gb230)) qz10 hg hat);have n1_:=Aside0.mk (Kd.Q_after (ok:=(fun k_=>some k_≠(u6:Value).ownBlock∧k_≠gb230)) qz23 hg hat);have n2_:=Aside0.mk (Kd.V_afterv (ok:=(fun k_=>some k_≠(u6:Value).ownBlock∧some k_≠(.slice A17 y231.length c17:Value).ownBlock∧k_≠gb230)) qz52 hg hat);have n3_:=Aside0.mk (blk_grown (g:=gb230) (o:=.cells #[.int .i64 ((rd_T46 x7_1 0).f0),.int .i64 ((rd_T46 x7_1 0).f1),.string ((rd_T46 x7_1 0).f2)] 46 (0,0)) qz12 hg (Kd.R_away HO242.out (fun _ hk=>hk.2)));have n4_:=Aside0.mk (hb);have n5_:=Aside0.mk (ho);clear HO_6 HO_7 HO_9 BK230 HB HO242;have HO_6:=n0_;have HO_7:=n1_;have HO_9:=n2_;have BK230:=n3_;have HB:=n4_;have HO245:=n5_;clear n0_ n1_ n2_ n3_ n4_ n5_ ho hb hg hat)|((with_reducible refine gate_builtin (b:=.append) (xs:=#[.tmp 35,.tmp 36]) rfl ?_);at_builtin;refine Kd.R_append_rows k46 (w0:=w) w.heap.size rfl (.tmp 35) (.tmp 36) 26 46 (.agg #[(.int .i64 0),(.int .i64 0),(.string ⟨#[]⟩)]) 32 rfl Tryd.underlying26 info46 rfl (by decide) (by omega) v244 y243 y231 _ _ _ (fun k_=>some k_≠(u6:Value).ownBlock∧some k_≠(.slice A17 y231.length c17:Value).ownBlock∧k_≠gb230) (fun _=>False) rfl rfl ?aO ?aR (fun _ _ h=>h) (fun _ h=>h.elim) ?aF ?aB ?aS ?aL ?_;(case aR=>exact qz101);(case aB=>exact qz8);(case aF=>exact (fun k_ hk=>⟨Kd.fresh' (Kd.R_lt qz10) k_ hk,Kd.fresh' (Kd.Q_lt qz23) k_ hk,Kd.freshB (g:=gb230) (o:=.cells #[.int .i64 ((rd_T46 x7_1 0).f0),.int .i64 ((rd_T46 x7_1 0).f1),.string ((rd_T46 x7_1 0).f2)] 46 (0,0)) qz12 k_ hk⟩));(case aO=>(with_reducible repeat (first|apply Kd.R_alloc|apply Kd.R_drewN|apply Kd.R_drew));exact HO245.out);(case aS=>exact (below_size qz8));(case aL=>have:=LMc27.out;omega);intro v247 w33 ho hb hg hat;rw [← Ny246.out] at ho;have n0_:=Aside0.mk (Kd.R_after (ok:=(fun k_=>some k_≠(.slice A17 y231.length c17:Value).ownBlock∧k_≠gb230)) qz10 hg hat);have n1_:=Aside0.mk (Kd.Q_after (ok:=(fun k_=>some k_≠(u6:Value).ownBlock∧k_≠gb230)) qz23 hg hat);have n2_:=Aside0.mk (Kd.V_afterv (ok:=(fun k_=>some k_≠(u6:Value).ownBlock∧some k_≠(.slice A17 y231.length c17:Value).ownBlock∧k_≠gb230)) qz52 hg hat);have n3_:=Aside0.mk (blk_grown (g:=gb230) (o:=.cells #[.int .i64 ((rd_T46 x7_1 0).f0),.int .i64 ((rd_T46 x7_1 0).f1),.string ((rd_T46 x7_1 0).f2)] 46 (0,0)) qz12 hg (Kd.R_away HO245.out (fun _ hk=>hk.2.2)));have n4_:=Aside0.mk (hb);have n5_:=Aside0.mk (ho);clear HO_6 HO_7 HO_9 BK230 HB HO245;have HO_6:=n0_;have HO_7:=n1_;have HO_9:=n2_;have BK230:=n3_;have HB:=n4_;have HO248:=n5_;clear n0_ n1_ n2_ n3_ n4_ n5_ ho hb hg hat;obtain ⟨Ao34,co34,eo34⟩:=Kd.R_slice HO_6.out;subst eo34;obtain ⟨Ao35,co35,eo35⟩:=Kd.R_slice HO248.out;subst eo35)|((with_reducible refine gate_dst (N:=48) rfl ?_);refine Kd.R_lit k46 _ 46 ?hg (N:=48) ?hd (xs:=([]:List (S46))) (inner:=[]) (ok:=fun _=>True) (okp:=fun _=>True) ?hr ?hp (fun _ hk=>hk) trivial (Below.refl _ _) (Nat.le_refl _) (by simp) ?_;(case hd=>rfl);(case hg=>rfl);(case hr=>first|(go_simp;done)|(go_simp;rfl));(case hp=>exact (Reps.none _ _));intro v250 w36 ho37 hb hg_ hnew_;clear hg_ hnew_;(first|rw [← Ny249.out] at ho37|(simp only [Int.reduceToNat] at ho37;rw [← Ny249.out] at ho37));have n0_:=Aside0.mk (Kd.R_elder' qz10 (Kd.R_base ho37) hb);have n1_:=Aside0.mk (Kd.Q_elder' qz23 (Kd.R_base ho37) hb);have n2_:=Aside0.mk (Kd.V_elder' qz52 (Kd.R_base ho37) hb);have n3_:=Aside0.mk (Kd.R_elder' (by (with_reducible repeat (first|apply Kd.R_alloc|apply Kd.R_drewN|apply Kd.R_drew));exact HO248.out) (Kd.R_base ho37) hb);have n4_:=Aside0.mk (Kd.R_lower (Kd.R_newB (Kd.R_new' (Kd.R_new' (Kd.R_new' ho37 (Kd.R_lt qz10)) (Kd.Q_lt qz23)) (Kd.R_lt (by (with_reducible repeat (first|apply Kd.R_alloc|apply Kd.R_drewN|apply Kd.R_drew));exact HO248.out))) (g:=gb230) (o:=.cells #[.int .i64 ((rd_T46 x7_1 0).f0),.int .i64 ((rd_T46 x7_1 0).f1),.string ((rd_T46 x7_1 0).f2)] 46 (0,0)) qz12) (below_size qz8));have n5_:=Aside0.mk (blk_below (g:=gb230) (o:=.cells #[.int .i64 ((rd_T46 x7_1 0).f0),.int .i64 ((rd_T46 x7_1 0).f1),.string ((rd_T46 x7_1 0).f2)] 46 (0,0)) qz12 hb);have n6_:=Aside0.mk (below_step qz8 hb);clear HO_6 HO_7 HO_9 HO248 BK230 HB;have HO_6:=n0_;have HO_7:=n1_;have HO_9:=n2_;have HO248:=n3_;have HO251:=n4_;have BK230:=n5_;have HB:=n6_;clear n0_ n1_ n2_ n3_ n4_ n5_ n6_ hb ho37))
             go_ret2
             exact ⟨_,qz7,by (with_reducible repeat (first|apply Kd.R_alloc|apply Kd.R_drewN|apply Kd.R_drew));exact Kd.R_mono HO251.out (fun _ hk=>trivial),qz8⟩
            ·rw [if_neg c28] at H
             have c28b0:decide (40<(wrap64 ((x6_1.length:Int)+(y246.length:Int))))=false:=decide_eq_false c28
             clear c28
             have H':=Aside0.mk H
             clear H
             obtain ⟨Ao38,co38,eo38⟩:=Kd.V_slice HO_9.out
             subst eo38
             go_wp2_with (first|((with_reducible refine gate_dst (N:=33) rfl ?_);refine Kd.R_lit k46 _ 46 ?hg (N:=33) ?hd (xs:=([]:List (S46))) (inner:=[]) (ok:=fun _=>True) (okp:=fun _=>True) ?hr ?hp (fun _ hk=>hk) trivial (Below.refl _ _) (Nat.le_refl _) (by simp) ?_;(case hd=>rfl);(case hg=>rfl);(case hr=>first|(go_simp;done)|(go_simp;rfl));(case hp=>exact (Reps.none _ _));intro v241 w39 ho40 hb hg_ hnew_;clear hg_ hnew_;(first|rw [← Ny240.out] at ho40|(simp only [Int.reduceToNat] at ho40;rw [← Ny240.out] at ho40));have n0_:=Aside0.mk (Kd.R_elder' qz10 (Kd.R_base ho40) hb);have n1_:=Aside0.mk (Kd.Q_elder' qz23 (Kd.R_base ho40) hb);have n2_:=Aside0.mk (Kd.V_elder' qz52 (Kd.R_base ho40) hb);have n3_:=Aside0.mk (Kd.R_lower (Kd.R_newB (Kd.R_new' (Kd.R_new' ho40 (Kd.R_lt qz10)) (Kd.Q_lt qz23)) (g:=gb230) (o:=.cells #[.int .i64 ((rd_T46 x7_1 0).f0),.int .i64 ((rd_T46 x7_1 0).f1),.string ((rd_T46 x7_1 0).f2)] 46 (0,0)) qz12) (below_size qz8));have n4_:=Aside0.mk (blk_below (g:=gb230) (o:=.cells #[.int .i64 ((rd_T46 x7_1 0).f0),.int .i64 ((rd_T46 x7_1 0).f1),.string ((rd_T46 x7_1 0).f2)] 46 (0,0)) qz12 hb);have n5_:=Aside0.mk (below_step qz8 hb);clear HO_6 HO_7 HO_9 BK230 HB;have HO_6:=n0_;have HO_7:=n1_;have HO_9:=n2_;have HO242:=n3_;have BK230:=n4_;have HB:=n5_;clear n0_ n1_ n2_ n3_ n4_ n5_ hb ho40)|((with_reducible refine gate_builtin (b:=.append) (xs:=#[.tmp 33,.tmp 34]) rfl ?_);at_builtin;refine Kd.R_append_rows k46 (w0:=w) w.heap.size rfl (.tmp 33) (.tmp 34) 26 46 (.agg #[(.int .i64 0),(.int .i64 0),(.string ⟨#[]⟩)]) 32 rfl Tryd.underlying26 info46 rfl (by decide) (by omega) v241 y240 x9_11 _ _ _ (fun k_=>some k_≠(u6:Value).ownBlock∧some k_≠(.slice A17 y231.length c17:Value).ownBlock∧k_≠gb230) (fun _=>False) rfl rfl ?aO ?aR (fun _ _ h=>h) (fun _ h=>h.elim) ?aF ?aB ?aS ?aL ?_;(case aR=>exact qz98);(case aB=>exact qz8);(case aF=>exact (fun k_ hk=>⟨Kd.fresh' (Kd.R_lt qz10) k_ hk,Kd.fresh' (Kd.Q_lt qz23) k_ hk,Kd.freshB (g:=gb230) (o:=.cells #[.int .i64 ((rd_T46 x7_1 0).f0),.int .i64 ((rd_T46 x7_1 0).f1),.string ((rd_T46 x7_1 0).f2)] 46 (0,0)) qz12 k_ hk⟩));(case aO=>exact qz103);(case aS=>exact (below_size qz8));(case aL=>have:=LMc26.out;omega);intro v244 w41 ho hb hg hat;rw [← Ny243.out] at ho;have n0_:=Aside0.mk (Kd.R_after (ok:=(fun k_=>some k_≠(.slice A17 y231.length c17:Value).ownBlock∧k_≠gb230)) qz10 hg hat);have n1_:=Aside0.mk (Kd.Q_after (ok:=(fun k_=>some k_≠(u6:Value).ownBlock∧k_≠gb230)) qz23 hg hat);have n2_:=Aside0.mk (Kd.V_afterv (ok:=(fun k_=>some k_≠(u6:Value).ownBlock∧some k_≠(.slice A17 y231.length c17:Value).ownBlock∧k_≠gb230)) qz52 hg hat);have n3_:=Aside0.mk (blk_grown (g:=gb230) (o:=.cells #[.int .i64 ((rd_T46 x7_1 0).f0),.int .i64 ((rd_T46 x7_1 0).f1),.string ((rd_T46 x7_1 0).f2)] 46 (0,0)) qz12 hg (Kd.R_away HO242.out (fun _ hk=>hk.2)));have n4_:=Aside0.mk (hb);have n5_:=Aside0.mk (ho);clear HO_6 HO_7 HO_9 BK230 HB HO242;have HO_6:=n0_;have HO_7:=n1_;have HO_9:=n2_;have BK230:=n3_;have HB:=n4_;have HO245:=n5_;clear n0_ n1_ n2_ n3_ n4_ n5_ ho hb hg hat)|((with_reducible refine gate_builtin (b:=.append) (xs:=#[.tmp 35,.tmp 36]) rfl ?_);at_builtin;refine Kd.R_append_rows k46 (w0:=w) w.heap.size rfl (.tmp 35) (.tmp 36) 26 46 (.agg #[(.int .i64 0),(.int .i64 0),(.string ⟨#[]⟩)]) 32 rfl Tryd.underlying26 info46 rfl (by decide) (by omega) v244 y243 y231 _ _ _ (fun k_=>some k_≠(u6:Value).ownBlock∧some k_≠(.slice A17 y231.length c17:Value).ownBlock∧k_≠gb230) (fun _=>False) rfl rfl ?aO ?aR (fun _ _ h=>h) (fun _ h=>h.elim) ?aF ?aB ?aS ?aL ?_;(case aR=>exact qz101);(case aB=>exact qz8);(case aF=>exact (fun k_ hk=>⟨Kd.fresh' (Kd.R_lt qz10) k_ hk,Kd.fresh' (Kd.Q_lt qz23) k_ hk,Kd.freshB (g:=gb230) (o:=.cells #[.int .i64 ((rd_T46 x7_1 0).f0),.int .i64 ((rd_T46 x7_1 0).f1),.string ((rd_T46 x7_1 0).f2)] 46 (0,0)) qz12 k_ hk⟩));(case aO=>(with_reducible repeat (first|apply Kd.R_alloc|apply Kd.R_drewN|apply Kd.R_drew));exact HO245.out);(case aS=>exact (below_size qz8));(case aL=>have:=LMc27.out;omega);intro v247 w42 ho hb hg hat;rw [← Ny246.out] at ho;have n0_:=Aside0.mk (Kd.R_after (ok:=(fun k_=>some k_≠(.slice A17 y231.length c17:Value).ownBlock∧k_≠gb230)) qz10 hg hat);have n1_:=Aside0.mk (Kd.Q_after (ok:=(fun k_=>some k_≠(u6:Value).ownBlock∧k_≠gb230)) qz23 hg hat);have n2_:=Aside0.mk (Kd.V_afterv (ok:=(fun k_=>some k_≠(u6:Value).ownBlock∧some k_≠(.slice A17 y231.length c17:Value).ownBlock∧k_≠gb230)) qz52 hg hat);have n3_:=Aside0.mk (blk_grown (g:=gb230) (o:=.cells #[.int .i64 ((rd_T46 x7_1 0).f0),.int .i64 ((rd_T46 x7_1 0).f1),.string ((rd_T46 x7_1 0).f2)] 46 (0,0)) qz12 hg (Kd.R_away HO245.out (fun _ hk=>hk.2.2)));have n4_:=Aside0.mk (hb);have n5_:=Aside0.mk (ho);clear HO_6 HO_7 HO_9 BK230 HB HO245;have HO_6:=n0_;have HO_7:=n1_;have HO_9:=n2_;have BK230:=n3_;have HB:=n4_;have HO248:=n5_;clear n0_ n1_ n2_ n3_ n4_ n5_ ho hb hg hat;obtain ⟨Ao43,co43,eo43⟩:=Kd.R_slice HO_6.out;subst eo43;obtain ⟨Ao44,co44,eo44⟩:=Kd.R_slice HO248.out;subst eo44))
             go_roundg kj11
             case measure=>have:=HK1.out;have:=HJ11.out;omega
             case rel=>exact ⟨(x6_1),(y246),H',⟨by have:=HK1.out;have:=HJ11.out;omega⟩,⟨by (with_reducible repeat (first|apply Kd.R_alloc|apply Kd.R_drewN|apply Kd.R_drew));exact Kd.R_mono HO_6.out (fun _ hk=>hk.2)⟩,⟨Kd.Q_of_R (by (with_reducible repeat (first|apply Kd.R_alloc|apply Kd.R_drewN|apply Kd.R_drew));exact Kd.R_mono HO248.out (fun _ hk=>hk.1))⟩,⟨qz8⟩⟩
           ·rw [if_neg c27] at H
            exact absurd H (by simp)
          ·rw [if_neg c26] at H
           exact absurd H (by simp)
         ·rw [if_neg c25] at H
          have c25b0:decide (0<(x9_11.length:Int))=false:=decide_eq_false c25
          have c25b1:decide (0<x9_11.length)=false:=decide_eq_false (by omega)
          clear c25
          by_cases c45:x6_1.length<4398046511104
          ·rw [if_pos c45] at H
           have LMc45:=Aside0.mk c45
           clear c45
           obtain ⟨y252,hy252⟩:∃ y_:List (S46),y_=(x6_1++[(⟨((rd_T46 x7_1 0).f0),((rd_T46 x7_1 0).f1),((rd_T46 x7_1 0).f2)⟩:S46)]):=⟨_,rfl⟩
           replace H:(if (wrap64 ((y252.length:Int)+(y231.length:Int))) > 40 then (some ((([]:List (S46))),false)) else (spec_l2Full.l0 kj11 l0 y252 y231))=some (r1,r2):=by first|(rw [hy252];with_reducible exact H)|(have H2_:=(Option.bind_some _ _).symm.trans H;rw [hy252];with_reducible exact H2_)|(have H2_:=(Option.bind_some _ _).symm.trans H;with_reducible exact H2_)|with_reducible exact H|(rw [hy252];exact H)|exact H
           have Ny252:=Aside0.mk hy252
           clear hy252
           by_cases c46:(wrap64 ((y252.length:Int)+(y231.length:Int))) > 40
           ·rw [if_pos c46] at H
            have c46b0:decide (40<(wrap64 ((y252.length:Int)+(y231.length:Int))))=true:=decide_eq_true c46
            clear c46
            obtain ⟨y255,hy255⟩:∃ y_:List (S46),y_=(([]:List (S46))):=⟨_,rfl⟩
            replace H:(some (y255,false))=some (r1,r2):=by first|(rw [hy255];with_reducible exact H)|(have H2_:=(Option.bind_some _ _).symm.trans H;rw [hy255];with_reducible exact H2_)|(have H2_:=(Option.bind_some _ _).symm.trans H;with_reducible exact H2_)|with_reducible exact H|(rw [hy255];exact H)|exact H
            have Ny255:=Aside0.mk hy255
            clear hy255
            simp only [Option.some.injEq,Prod.mk.injEq] at H
            obtain ⟨rfl,rfl⟩:=H
            obtain ⟨Ao47,co47,eo47⟩:=Kd.V_slice HO_9.out
            subst eo47
            have hcz48_0:wc.cell? ⟨gb230,0,none⟩=some (.int .i64 ((rd_T46 x7_1 0).f0)):=(blk_cell BK230.out 0).trans rfl
            have hcz48_1:wc.cell? ⟨gb230,1,none⟩=some (.int .i64 ((rd_T46 x7_1 0).f1)):=(blk_cell BK230.out 1).trans rfl
            have hcz48_2:wc.cell? ⟨gb230,2,none⟩=some (.string ((rd_T46 x7_1 0).f2)):=(blk_cell BK230.out 2).trans rfl
            have hfz48_0:=blk_frozen BK230.out 0
            have hfz48_1:=blk_frozen BK230.out 1
            have hfz48_2:=blk_frozen BK230.out 2
            go_wp2_with (first|((with_reducible refine gate_builtin (b:=.append) (xs:=#[.tmp 38,.tmp 40]) rfl ?_);at_builtin;refine Kd.R_append k46 (w0:=w) w.heap.size rfl (.tmp 38) (.tmp 40) 26 46 (.agg #[(.int .i64 0),(.int .i64 0),(.string ⟨#[]⟩)]) 32 rfl Tryd.underlying26 info46 rfl (by decide) (by omega) u6 x6_1 (⟨((rd_T46 x7_1 0).f0),((rd_T46 x7_1 0).f1),((rd_T46 x7_1 0).f2)⟩:S46) [.int .i64 ((rd_T46 x7_1 0).f0),.int .i64 ((rd_T46 x7_1 0).f1),.string ((rd_T46 x7_1 0).f2)] (fun k_=>some k_≠(.slice A17 y231.length c17:Value).ownBlock∧k_≠gb230) (fun _=>False) rfl rfl ?aP (fun _ hk=>hk.elim) ?aF ?aO ?aB ?aS ?aL ?_;(case aP=>exact k46_mkM _ _ _ (⟨((rd_T46 x7_1 0).f0),((rd_T46 x7_1 0).f1),((rd_T46 x7_1 0).f2)⟩:S46));(case aB=>exact qz8);(case aF=>exact (fun k_ hk=>⟨Kd.fresh' (Kd.Q_lt qz23) k_ hk,Kd.freshB (g:=gb230) (o:=.cells #[.int .i64 ((rd_T46 x7_1 0).f0),.int .i64 ((rd_T46 x7_1 0).f1),.string ((rd_T46 x7_1 0).f2)] 46 (0,0)) qz12 k_ hk⟩));(case aO=>exact qz10);(case aS=>exact (below_size qz8));(case aL=>have:=LMc45.out;omega);intro v253 w49 ho hb hg hat;rw [← Ny252.out] at ho;have n0_:=Aside0.mk (Kd.Q_after (ok:=(fun k_=>k_≠gb230)) qz109 hg hat);have n1_:=Aside0.mk (Kd.V_afterv (ok:=(fun k_=>some k_≠(.slice A17 y231.length c17:Value).ownBlock∧k_≠gb230)) qz104 hg hat);have n2_:=Aside0.mk (blk_grown (g:=gb230) (o:=.cells #[.int .i64 ((rd_T46 x7_1 0).f0),.int .i64 ((rd_T46 x7_1 0).f1),.string ((rd_T46 x7_1 0).f2)] 46 (0,0)) qz12 hg (Kd.R_away HO_6.out (fun _ hk=>hk.2)));have n3_:=Aside0.mk (hb);have n4_:=Aside0.mk (ho);clear HO_7 HO_9 BK230 HB HO_6;have HO_7:=n0_;have HO_9:=n1_;have BK230:=n2_;have HB:=n3_;have HO254:=n4_;clear n0_ n1_ n2_ n3_ n4_ ho hb hg hat;obtain ⟨Ao50,co50,eo50⟩:=Kd.R_slice HO254.out;subst eo50)|((with_reducible refine gate_dst (N:=48) rfl ?_);refine Kd.R_lit k46 _ 46 ?hg (N:=48) ?hd (xs:=([]:List (S46))) (inner:=[]) (ok:=fun _=>True) (okp:=fun _=>True) ?hr ?hp (fun _ hk=>hk) trivial (Below.refl _ _) (Nat.le_refl _) (by simp) ?_;(case hd=>rfl);(case hg=>rfl);(case hr=>first|(go_simp;done)|(go_simp;rfl));(case hp=>exact (Reps.none _ _));intro v256 w51 ho52 hb hg_ hnew_;clear hg_ hnew_;(first|rw [← Ny255.out] at ho52|(simp only [Int.reduceToNat] at ho52;rw [← Ny255.out] at ho52));have n0_:=Aside0.mk (Kd.Q_elder' qz23 (Kd.R_base ho52) hb);have n1_:=Aside0.mk (Kd.V_elder' qz52 (Kd.R_base ho52) hb);have n2_:=Aside0.mk (Kd.R_elder' (by (with_reducible repeat (first|apply Kd.R_alloc|apply Kd.R_drewN|apply Kd.R_drew));exact HO254.out) (Kd.R_base ho52) hb);have n3_:=Aside0.mk (Kd.R_lower (Kd.R_newB (Kd.R_new' (Kd.R_new' ho52 (Kd.Q_lt qz23)) (Kd.R_lt (by (with_reducible repeat (first|apply Kd.R_alloc|apply Kd.R_drewN|apply Kd.R_drew));exact HO254.out))) (g:=gb230) (o:=.cells #[.int .i64 ((rd_T46 x7_1 0).f0),.int .i64 ((rd_T46 x7_1 0).f1),.string ((rd_T46 x7_1 0).f2)] 46 (0,0)) qz12) (below_size qz8));have n4_:=Aside0.mk (blk_below (g:=gb230) (o:=.cells #[.int .i64 ((rd_T46 x7_1 0).f0),.int .i64 ((rd_T46 x7_1 0).f1),.string ((rd_T46 x7_1 0).f2)] 46 (0,0)) qz12 hb);have n5_:=Aside0.mk (below_step qz8 hb);clear HO_7 HO_9 HO254 BK230 HB;have HO_7:=n0_;have HO_9:=n1_;have HO254:=n2_;have HO257:=n3_;have BK230:=n4_;have HB:=n5_;clear n0_ n1_ n2_ n3_ n4_ n5_ hb ho52))
            go_ret2
            exact ⟨_,qz7,by (with_reducible repeat (first|apply Kd.R_alloc|apply Kd.R_drewN|apply Kd.R_drew));exact Kd.R_mono HO257.out (fun _ hk=>trivial),qz8⟩
           ·rw [if_neg c46] at H
            have c46b0:decide (40<(wrap64 ((y252.length:Int)+(y231.length:Int))))=false:=decide_eq_false c46
            clear c46
            have H':=Aside0.mk H
            clear H
            obtain ⟨Ao53,co53,eo53⟩:=Kd.V_slice HO_9.out
            subst eo53
            have hcz54_0:wc.cell? ⟨gb230,0,none⟩=some (.int .i64 ((rd_T46 x7_1 0).f0)):=(blk_cell BK230.out 0).trans rfl
            have hcz54_1:wc.cell? ⟨gb230,1,none⟩=some (.int .i64 ((rd_T46 x7_1 0).f1)):=(blk_cell BK230.out 1).trans rfl
            have hcz54_2:wc.cell? ⟨gb230,2,none⟩=some (.string ((rd_T46 x7_1 0).f2)):=(blk_cell BK230.out 2).trans rfl
            have hfz54_0:=blk_frozen BK230.out 0
            have hfz54_1:=blk_frozen BK230.out 1
            have hfz54_2:=blk_frozen BK230.out 2
            go_wp2_with (first|((with_reducible refine gate_builtin (b:=.append) (xs:=#[.tmp 38,.tmp 40]) rfl ?_);at_builtin;refine Kd.R_append k46 (w0:=w) w.heap.size rfl (.tmp 38) (.tmp 40) 26 46 (.agg #[(.int .i64 0),(.int .i64 0),(.string ⟨#[]⟩)]) 32 rfl Tryd.underlying26 info46 rfl (by decide) (by omega) u6 x6_1 (⟨((rd_T46 x7_1 0).f0),((rd_T46 x7_1 0).f1),((rd_T46 x7_1 0).f2)⟩:S46) [.int .i64 ((rd_T46 x7_1 0).f0),.int .i64 ((rd_T46 x7_1 0).f1),.string ((rd_T46 x7_1 0).f2)] (fun k_=>some k_≠(.slice A17 y231.length c17:Value).ownBlock∧k_≠gb230) (fun _=>False) rfl rfl ?aP (fun _ hk=>hk.elim) ?aF ?aO ?aB ?aS ?aL ?_;(case aP=>exact k46_mkM _ _ _ (⟨((rd_T46 x7_1 0).f0),((rd_T46 x7_1 0).f1),((rd_T46 x7_1 0).f2)⟩:S46));(case aB=>exact qz8);(case aF=>exact (fun k_ hk=>⟨Kd.fresh' (Kd.Q_lt qz23) k_ hk,Kd.freshB (g:=gb230) (o:=.cells #[.int .i64 ((rd_T46 x7_1 0).f0),.int .i64 ((rd_T46 x7_1 0).f1),.string ((rd_T46 x7_1 0).f2)] 46 (0,0)) qz12 k_ hk⟩));(case aO=>exact qz10);(case aS=>exact (below_size qz8));(case aL=>have:=LMc45.out;omega);intro v253 w55 ho hb hg hat;rw [← Ny252.out] at ho;have n0_:=Aside0.mk (Kd.Q_after (ok:=(fun k_=>k_≠gb230)) qz109 hg hat);have n1_:=Aside0.mk (Kd.V_afterv (ok:=(fun k_=>some k_≠(.slice A17 y231.length c17:Value).ownBlock∧k_≠gb230)) qz104 hg hat);have n2_:=Aside0.mk (blk_grown (g:=gb230) (o:=.cells #[.int .i64 ((rd_T46 x7_1 0).f0),.int .i64 ((rd_T46 x7_1 0).f1),.string ((rd_T46 x7_1 0).f2)] 46 (0,0)) qz12 hg (Kd.R_away HO_6.out (fun _ hk=>hk.2)));have n3_:=Aside0.mk (hb);have n4_:=Aside0.mk (ho);clear HO_7 HO_9 BK230 HB HO_6;have HO_7:=n0_;have HO_9:=n1_;have BK230:=n2_;have HB:=n3_;have HO254:=n4_;clear n0_ n1_ n2_ n3_ n4_ ho hb hg hat;obtain ⟨Ao56,co56,eo56⟩:=Kd.R_slice HO254.out;subst eo56))
            go_roundg kj11
            case measure=>have:=HK1.out;have:=HJ11.out;omega
            case rel=>exact ⟨(y252),(y231),H',⟨by have:=HK1.out;have:=HJ11.out;omega⟩,⟨by (with_reducible repeat (first|apply Kd.R_alloc|apply Kd.R_drewN|apply Kd.R_drew));exact Kd.R_mono HO254.out (fun _ hk=>hk.1)⟩,⟨by (with_reducible repeat (first|apply Kd.Q_alloc|apply Kd.Q_drewN|apply Kd.Q_drew));exact Kd.Q_mono HO_7.out (fun _ hk=>hk.2)⟩,⟨qz8⟩⟩
          ·rw [if_neg c45] at H
           exact absurd H (by simp)
      ·rw [if_neg c11] at H
       exact absurd H (by simp)
     ·rw [if_neg c10] at H
      exact absurd H (by simp)
    ·rw [if_neg c9] at H
     have c9b0:decide (0<(x7_1.length:Int))=false:=decide_eq_false c9
     have c9b1:decide (0<x7_1.length)=false:=decide_eq_false (by omega)
     clear c9
     simp only [Option.some.injEq,Prod.mk.injEq] at H
     obtain ⟨rfl,rfl⟩:=H
     obtain ⟨Ao57,co57,eo57,_⟩:=Kd.Q_slice HO_7.out
     subst eo57
     go_wp2
     go_ret2
     exact ⟨_,qz7,by (with_reducible repeat (first|apply Kd.R_alloc|apply Kd.R_drewN|apply Kd.R_drew));exact Kd.R_mono HO_6.out (fun _ hk=>trivial),qz5⟩
 ·rw [if_neg c3] at H
  exact absurd H (by simp)
def spec_l2Walk.l0:Nat→List (S30)→List (S46)→Option ((List (S46)))
 | 0,_,_=>none
 | k+1,x0,x5=>if 0<(x5.length:Int) then (if ((rd_T46 x5 0).f0)=1 then ((spec_l2Get.f k x0 ((rd_T46 x5 0).f1)).bind fun t260=>(if (t260.length:Int)=0 then (some x5) else (spec_l2Walk.l0 k x0 t260))) else (some x5)) else (none)
def spec_l2Walk.f (k:Nat) (l0:List (S30)) (l1:List (S46)):Option ((List (S46))):=spec_l2Walk.l0 k l0 l1
set_option maxHeartbeats 8000000 in
set_option maxRecDepth 100000 in
theorem spec_l2Walk.calls (k:Nat) (P0_:Nat→Prop) (A0:Option Addr) (c0:Nat) (l0:List (S30)) (P1_:Nat→Prop) (A1:Option Addr) (c1:Nat) (l1:List (S46)) (r:List (S46)) (w:World) (hs0:Kd.V k30 30 w w.heap.size (fun k_=>P0_ k_) (.slice A0 l0.length c0) l0) (hs1:Kd.V k46 46 w w.heap.size (fun k_=>P1_ k_) (.slice A1 l1.length c1) l1) (h:spec_l2Walk.f k l0 l1=some r) :
  Calls Tryd.prog 105 #[.slice A0 l0.length c0,.slice A1 l1.length c1] w fun e w'=>∃ v0_:Value,e = .returned (v0_)∧Kd.V k46 46 w' w.heap.size (fun k_=>((P0_ k_∨P1_ k_)∨w.heap.size≤k_)) v0_ r∧Below w.heap.size w w':=by
 have HO0:=Aside0.mk (show Kd.V k30 30 w w.heap.size (fun k_=>((P0_ k_∨P1_ k_)∨w.heap.size≤k_)) (.slice A0 l0.length c0) l0 from Kd.V_mono hs0 (fun k_ hk=>.inl (.inl hk)))
 have HO1:=Aside0.mk (show Kd.V k46 46 w w.heap.size (fun k_=>((P0_ k_∨P1_ k_)∨w.heap.size≤k_)) (.slice A1 l1.length c1) l1 from Kd.V_mono hs1 (fun k_ hk=>.inl (.inr hk)))
 have HB:=Aside0.mk (Below.refl w.heap.size w)
 have H:(spec_l2Walk.l0 k l0 l1)=some r:=h
 clear h
 have H':=Aside0.mk H
 clear H
 go_enter Tryd.func105,Tryd.ntmps105
 go_wp2
 go_loopg [5] k (fun kq v5 w'=>∃ (x5_1:List (S46)),Aside0 (spec_l2Walk.l0 kq l0 x5_1=some r)∧Aside0 (kq≤k)∧Aside0 (Kd.V k30 30 w' w.heap.size (fun k_=>((P0_ k_∨P1_ k_)∨w.heap.size≤k_)) (.slice A0 l0.length c0) l0)∧Aside0 (Kd.V k46 46 w' w.heap.size (fun k_=>((P0_ k_∨P1_ k_)∨w.heap.size≤k_)) v5 x5_1)∧Aside0 (Below w.heap.size w w'))
 case atStart=>exact ⟨(l1),H',⟨Nat.le_refl _⟩,⟨qz90⟩,⟨by (with_reducible repeat (first|apply Kd.V_alloc|apply Kd.V_drewN|apply Kd.V_drew));exact HO1.out⟩,⟨qz5⟩⟩
 case round=>
  clear H'
  try clear c1
  try clear p2
  obtain ⟨x5_1,HA,HK1,HO_0,HO_5,HB⟩:=hrel
  cases gk with
  | zero=>exact absurd HA.out (by simp [spec_l2Walk.l0])
  | succ k1=>
   have H:=HA.out
   clear HA
   simp only [spec_l2Walk.l0] at H
   by_cases c3:0<(x5_1.length:Int)
   ·rw [if_pos c3] at H
    have c3b0:decide (0<(x5_1.length:Int))=true:=decide_eq_true c3
    have c3b1:decide (0<x5_1.length)=true:=decide_eq_true (by omega)
    clear c3
    by_cases c4:((rd_T46 x5_1 0).f0)=1
    ·rw [if_pos c4] at H
     have c4b0:(((rd_T46 x5_1 0).f0) == 1)=true:=beq_iff_eq.mpr c4
     have c4b1:(((rd_T46 x5_1 0).f0) != 1)=false:=bne_eq_false_iff_eq.mpr c4
     clear c4
     replace H:=Option.bind_eq_some_iff.mp H
     obtain ⟨t260,A50,H⟩:=H
     replace H:(if (t260.length:Int)=0 then (some x5_1) else (spec_l2Walk.l0 k1 l0 t260))=some r:=H
     have A5:=Aside0.mk A50
     clear A50
     by_cases c6:(t260.length:Int)=0
     ·rw [if_pos c6] at H
      have c6b0:((t260.length:Int) == 0)=true:=beq_iff_eq.mpr c6
      have c6b1:((t260.length:Int) != 0)=false:=bne_eq_false_iff_eq.mpr c6
      clear c6
      obtain rfl:=Option.some.inj H
      obtain ⟨Ao7,co7,eo7⟩:=Kd.V_slice HO_5.out
      subst eo7
      have p258:0≤(0:Int):=(by omega)
      have q258:0<(x5_1.length:Int):=of_decide_eq_true qz6
      obtain ⟨ad258,e258,hx258_0,hx258_1,hx258_2⟩:=at_T46 (Kd.V_reads' HO_5.out).2.2 0 p258 q258
      cases e258
      have qi258:(0<x5_1.length)=True:=eq_true (by omega)
      (try rw [show ((0:Int)).toNat=0 from rfl] at hx258_0)
      (try rw [show 0 * 3=0 from rfl] at hx258_0)
      (try rw [Addr.add_zero'] at hx258_0)
      (try rw [show ((0:Int)).toNat=0 from rfl] at hx258_1)
      (try rw [show 0 * 3=0 from rfl] at hx258_1)
      (try rw [Addr.add_zero'] at hx258_1)
      (try rw [show ((0:Int)).toNat=0 from rfl] at hx258_2)
      (try rw [show 0 * 3=0 from rfl] at hx258_2)
      (try rw [Addr.add_zero'] at hx258_2)
      replace p258:=eq_true p258
      replace q258:=eq_true q258
      have p259:0≤(0:Int):=(by omega)
      have q259:0<(x5_1.length:Int):=of_decide_eq_true qz6
      obtain ⟨ad259,e259,hx259_0,hx259_1,hx259_2⟩:=at_T46 (Kd.V_reads' HO_5.out).2.2 0 p259 q259
      obtain rfl:ad258=ad259:=(by injection e259)
      have qi259:(0<x5_1.length)=True:=eq_true (by omega)
      (try rw [show ((0:Int)).toNat=0 from rfl] at hx259_0)
      (try rw [show 0 * 3=0 from rfl] at hx259_0)
      (try rw [Addr.add_zero'] at hx259_0)
      (try rw [show ((0:Int)).toNat=0 from rfl] at hx259_1)
      (try rw [show 0 * 3=0 from rfl] at hx259_1)
      (try rw [Addr.add_zero'] at hx259_1)
      (try rw [show ((0:Int)).toNat=0 from rfl] at hx259_2)
      (try rw [show 0 * 3=0 from rfl] at hx259_2)
      (try rw [Addr.add_zero'] at hx259_2)
      replace p259:=eq_true p259
      replace q259:=eq_true q259
      go_wp2_with (first|((with_reducible refine gate_callee (f:=92) rfl ?_);refine goesL_ (some 18) rfl rfl Tryd.func92 (by kernel_rfl) rfl #[.slice A0 l0.length c0,.int .i64 ((rd_T46 x5_1 0).f1)] rfl qz24 ?_;(with_reducible refine (spec_l2Get.calls k1 (fun k_=>((P0_ k_∨P1_ k_)∨w.heap.size≤k_)) _ _ l0 ((rd_T46 x5_1 0).f1) t260 _ ?side1 A5.out).mono ?_);(case side1=>exact HO_0.out);rintro e w8 ⟨v261,rfl,ho0,hb⟩;refine ⟨_,rfl,?_⟩;have n0_:=Aside0.mk (Kd.V_below qz65 hb);have n1_:=Aside0.mk (Kd.V_below qz78 hb);have n2_:=Aside0.mk (Kd.V_lower (Kd.V_mono (ok':=fun k_=>((P0_ k_∨P1_ k_)∨w.heap.size≤k_)) ho0 (fun k_ hk_=>Or.elim hk_ (fun hs_=>hs_) (fun hn_=>(.inr (Nat.le_trans (below_size qz4) hn_))))) (below_size qz4));have n3_:=Aside0.mk (below_step qz4 hb);clear HO_0 HO_5 HB;have HO_0:=n0_;have HO_5:=n1_;have HO262:=n2_;have HB:=n3_;clear n0_ n1_ n2_ n3_;(try clear hb);(try clear hb2);(try clear hk);(try clear hi);(try clear ho0);obtain ⟨Ao9,co9,eo9⟩:=Kd.V_slice HO262.out;subst eo9))
      go_ret
      exact ⟨_,qz7,qz78,qz5⟩
     ·rw [if_neg c6] at H
      have c6b0:((t260.length:Int) == 0)=false:=beq_eq_false_iff_ne.mpr c6
      have c6b1:((t260.length:Int) != 0)=true:=bne_iff_ne.mpr c6
      have c6b2:¬ (t260=[]):=fun h_=>c6 (by rw [h_];rfl)
      have H':=Aside0.mk H
      clear H
      obtain ⟨Ao10,co10,eo10⟩:=Kd.V_slice HO_5.out
      subst eo10
      have p258:0≤(0:Int):=(by omega)
      have q258:0<(x5_1.length:Int):=of_decide_eq_true qz6
      obtain ⟨ad258,e258,hx258_0,hx258_1,hx258_2⟩:=at_T46 (Kd.V_reads' HO_5.out).2.2 0 p258 q258
      cases e258
      have qi258:(0<x5_1.length)=True:=eq_true (by omega)
      (try rw [show ((0:Int)).toNat=0 from rfl] at hx258_0)
      (try rw [show 0 * 3=0 from rfl] at hx258_0)
      (try rw [Addr.add_zero'] at hx258_0)
      (try rw [show ((0:Int)).toNat=0 from rfl] at hx258_1)
      (try rw [show 0 * 3=0 from rfl] at hx258_1)
      (try rw [Addr.add_zero'] at hx258_1)
      (try rw [show ((0:Int)).toNat=0 from rfl] at hx258_2)
      (try rw [show 0 * 3=0 from rfl] at hx258_2)
      (try rw [Addr.add_zero'] at hx258_2)
      replace p258:=eq_true p258
      replace q258:=eq_true q258
      have p259:0≤(0:Int):=(by omega)
      have q259:0<(x5_1.length:Int):=of_decide_eq_true qz6
      obtain ⟨ad259,e259,hx259_0,hx259_1,hx259_2⟩:=at_T46 (Kd.V_reads' HO_5.out).2.2 0 p259 q259
      obtain rfl:ad258=ad259:=(by injection e259)
      have qi259:(0<x5_1.length)=True:=eq_true (by omega)
      (try rw [show ((0:Int)).toNat=0 from rfl] at hx259_0)
      (try rw [show 0 * 3=0 from rfl] at hx259_0)
      (try rw [Addr.add_zero'] at hx259_0)
      (try rw [show ((0:Int)).toNat=0 from rfl] at hx259_1)
      (try rw [show 0 * 3=0 from rfl] at hx259_1)
      (try rw [Addr.add_zero'] at hx259_1)
      (try rw [show ((0:Int)).toNat=0 from rfl] at hx259_2)
      (try rw [show 0 * 3=0 from rfl] at hx259_2)
      (try rw [Addr.add_zero'] at hx259_2)
      replace p259:=eq_true p259
      replace q259:=eq_true q259
      go_wp2_with (first|((with_reducible refine gate_callee (f:=92) rfl ?_);refine goesL_ (some 18) rfl rfl Tryd.func92 (by kernel_rfl) rfl #[.slice A0 l0.length c0,.int .i64 ((rd_T46 x5_1 0).f1)] rfl qz24 ?_;(with_reducible refine (spec_l2Get.calls k1 (fun k_=>((P0_ k_∨P1_ k_)∨w.heap.size≤k_)) _ _ l0 ((rd_T46 x5_1 0).f1) t260 _ ?side1 A5.out).mono ?_);(case side1=>exact HO_0.out);rintro e w11 ⟨v261,rfl,ho0,hb⟩;refine ⟨_,rfl,?_⟩;have n0_:=Aside0.mk (Kd.V_below qz65 hb);have n1_:=Aside0.mk (Kd.V_below qz78 hb);have n2_:=Aside0.mk (Kd.V_lower (Kd.V_mono (ok':=fun k_=>((P0_ k_∨P1_ k_)∨w.heap.size≤k_)) ho0 (fun k_ hk_=>Or.elim hk_ (fun hs_=>hs_) (fun hn_=>(.inr (Nat.le_trans (below_size qz4) hn_))))) (below_size qz4));have n3_:=Aside0.mk (below_step qz4 hb);clear HO_0 HO_5 HB;have HO_0:=n0_;have HO_5:=n1_;have HO262:=n2_;have HB:=n3_;clear n0_ n1_ n2_ n3_;(try clear hb);(try clear hb2);(try clear hk);(try clear hi);(try clear ho0);obtain ⟨Ao12,co12,eo12⟩:=Kd.V_slice HO262.out;subst eo12))
      go_roundg k1
      case measure=>have:=HK1.out;omega
      case rel=>exact ⟨(t260),H',⟨by have:=HK1.out;omega⟩,⟨qz65⟩,⟨by (with_reducible repeat (first|apply Kd.V_alloc|apply Kd.V_drewN|apply Kd.V_drew));exact HO262.out⟩,⟨qz5⟩⟩
    ·rw [if_neg c4] at H
     have c4b0:(((rd_T46 x5_1 0).f0) == 1)=false:=beq_eq_false_iff_ne.mpr c4
     have c4b1:(((rd_T46 x5_1 0).f0) != 1)=true:=bne_iff_ne.mpr c4
     obtain rfl:=Option.some.inj H
     obtain ⟨Ao13,co13,eo13⟩:=Kd.V_slice HO_5.out
     subst eo13
     have p258:0≤(0:Int):=(by omega)
     have q258:0<(x5_1.length:Int):=of_decide_eq_true qz6
     obtain ⟨ad258,e258,hx258_0,hx258_1,hx258_2⟩:=at_T46 (Kd.V_reads' HO_5.out).2.2 0 p258 q258
     cases e258
     have qi258:(0<x5_1.length)=True:=eq_true (by omega)
     (try rw [show ((0:Int)).toNat=0 from rfl] at hx258_0)
     (try rw [show 0 * 3=0 from rfl] at hx258_0)
     (try rw [Addr.add_zero'] at hx258_0)
     (try rw [show ((0:Int)).toNat=0 from rfl] at hx258_1)
     (try rw [show 0 * 3=0 from rfl] at hx258_1)
     (try rw [Addr.add_zero'] at hx258_1)
     (try rw [show ((0:Int)).toNat=0 from rfl] at hx258_2)
     (try rw [show 0 * 3=0 from rfl] at hx258_2)
     (try rw [Addr.add_zero'] at hx258_2)
     replace p258:=eq_true p258
     replace q258:=eq_true q258
     go_wp2
     go_ret
     exact ⟨_,qz7,qz78,qz5⟩
   ·rw [if_neg c3] at H
    exact absurd H (by simp)
end Go.Proofs.YtlaicnoikeieeaaDoor.P
