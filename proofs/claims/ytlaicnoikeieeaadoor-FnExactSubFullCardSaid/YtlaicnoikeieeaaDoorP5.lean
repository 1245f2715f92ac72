/- Contracts of functions of the program: each as a Lean function, and that its call does what that says; printed by cprint.py (this session) over print.py of the kit. Conditions: the hypotheses of each theorem. -/
import Derived.Test.YtlaicnoikeieeaaDoorVZ
import Derived.Test.YtlaicnoikeieeaaDoorP0
import Derived.Test.YtlaicnoikeieeaaDoorP2
import Derived.Test.YtlaicnoikeieeaaDoorP4
namespace Go.Proofs.YtlaicnoikeieeaaDoor.P
open Go.RowKit Go.Proofs.YtlaicnoikeieeaaDoorW.PrintWords Go.Proofs.YtlaicnoikeieeaaDoorW.PrintLast Go.Proofs.YtlaicnoikeieeaaDoorW.PrintMore
attribute [local go_sem] max2_int min2_int max_two min_two max_three min_three max_four min_four   -- for this text's walks alone
set_option linter.unusedVariables false
set_option linter.unusedSimpArgs false

/-! ### spec_l2Full: function 73 -/
mutual
def spec_l2Full.l0:Nat→List (S30)→List (S46)→List (S46)→Option ((List (S46)) × Bool)
 | 0,_,_,_=>none
 | k+1,x0,x6,x7=>if (x7.length:Int) > 0 then (if 0<(x7.length:Int) then (if 1≤(x7.length:Int) then ((some (x7.drop (1:Int).toNat:List (S46))).bind fun y210=>(if ((rd_T46 x7 0).f0)=1 then ((spec_l2Get.f k x0 ((rd_T46 x7 0).f1)).bind fun t216=>(spec_l2Full.j1 k x0 x6 y210 t216 ((rd_T46 x7 0).f0) ((rd_T46 x7 0).f1) ((rd_T46 x7 0).f2))) else (spec_l2Full.j1 k x0 x6 y210 (([]:List (S46))) ((rd_T46 x7 0).f0) ((rd_T46 x7 0).f1) ((rd_T46 x7 0).f2)))) else (none)) else (none)) else (some (x6,true))
def spec_l2Full.j1:Nat→List (S30)→List (S46)→List (S46)→List (S46)→Int→Int→ByteArray→Option ((List (S46)) × Bool)
 | 0,_,_,_,_,_,_,_=>none
 | k+1,x0,x6,x7,x9,x210000,x210001,x210002=>if (x9.length:Int) > 0 then ((some (([]:List (S46)):List (S46))).bind fun y219=>(if y219.length+x9.length<4398046511104 then ((some (y219++x9:List (S46))).bind fun y222=>(if y222.length+x7.length<4398046511104 then ((some (y222++x7:List (S46))).bind fun y225=>(if (wrap64 ((x6.length:Int)+(y225.length:Int))) > 40 then (some ((([]:List (S46))),false)) else (spec_l2Full.l0 k x0 x6 y225))) else (none))) else (none))) else (if x6.length<4398046511104 then ((some (x6++[(⟨x210000,x210001,x210002⟩:S46)]:List (S46))).bind fun y231=>(if (wrap64 ((y231.length:Int)+(x7.length:Int))) > 40 then (some ((([]:List (S46))),false)) else (spec_l2Full.l0 k x0 y231 x7))) else (none))
end
def spec_l2Full.f (k:Nat) (l0:List (S30)) (l1:List (S46)):Option ((List (S46)) × Bool):=(some (([]:List (S46)):List (S46))).bind fun y202=>(if y202.length+l1.length<4398046511104 then (spec_l2Full.l0 k l0 (([]:List (S46))) (y202++l1)) else (none))
set_option maxHeartbeats 8000000 in
set_option maxRecDepth 100000 in
theorem spec_l2Full.calls (k:Nat) (A0:Option Addr) (c0:Nat) (l0:List (S30)) (A1:Option Addr) (c1:Nat) (l1:List (S46)) (r1:List (S46)) (r2:Bool) (w:World) (hr0:Kd.C k30 w A0 l0.length l0) (hc0:l0.length≤c0) (hr1:Kd.C k46 w A1 l1.length l1) (hc1:l1.length≤c1) (h:spec_l2Full.f k l0 l1=some (r1,r2)) :
  Calls Tryd.prog 73 #[.slice A0 l0.length c0,.slice A1 l1.length c1] w fun e w'=>∃ v0_:Value,e = .returned (.tuple #[v0_,.bool r2])∧Kd.R k46 46 w' w.heap.size (fun _=>True) v0_ r1∧Below w.heap.size w w':=by
 have hu46:=Tryd.underlying46
 have HR0:=Aside0.mk hr0
 have HC0:=Aside0.mk hc0
 clear hr0 hc0
 have HR1:=Aside0.mk hr1
 have HC1:=Aside0.mk hc1
 clear hr1 hc1
 have HB:=Aside0.mk (Below.refl w.heap.size w)
 have H:((some (([]:List (S46)):List (S46))).bind fun y202=>(if y202.length+l1.length<4398046511104 then (spec_l2Full.l0 k l0 (([]:List (S46))) (y202++l1)) else (none)))=some (r1,r2):=h
 clear h
 obtain ⟨y199,hy199⟩:∃ y_:List (S46),y_=(([]:List (S46))):=⟨_,rfl⟩
 replace H:((some (([]:List (S46)):List (S46))).bind fun y202=>(if y202.length+l1.length<4398046511104 then (spec_l2Full.l0 k l0 y199 (y202++l1)) else (none)))=some (r1,r2):=by first|(rw [hy199];with_reducible exact H)|(have H2_:=(Option.bind_some _ _).symm.trans H;rw [hy199];with_reducible exact H2_)|(have H2_:=(Option.bind_some _ _).symm.trans H;with_reducible exact H2_)|with_reducible exact H|(rw [hy199];exact H)|exact H
 have Ny199:=Aside0.mk hy199
 clear hy199
 obtain ⟨y202,hy202⟩:∃ y_:List (S46),y_=(([]:List (S46))):=⟨_,rfl⟩
 replace H:(if y202.length+l1.length<4398046511104 then (spec_l2Full.l0 k l0 y199 (y202++l1)) else (none))=some (r1,r2):=by first|(rw [hy202];with_reducible exact H)|(have H2_:=(Option.bind_some _ _).symm.trans H;rw [hy202];with_reducible exact H2_)|(have H2_:=(Option.bind_some _ _).symm.trans H;with_reducible exact H2_)|with_reducible exact H|(rw [hy202];exact H)|exact H
 have Ny202:=Aside0.mk hy202
 clear hy202
 by_cases c3:y202.length+l1.length<4398046511104
 ·rw [if_pos c3] at H
  have LMc3:=Aside0.mk c3
  clear c3
  obtain ⟨y205,hy205⟩:∃ y_:List (S46),y_=(y202++l1):=⟨_,rfl⟩
  replace H:(spec_l2Full.l0 k l0 y199 y205)=some (r1,r2):=by first|(rw [hy205];with_reducible exact H)|(have H2_:=(Option.bind_some _ _).symm.trans H;rw [hy205];with_reducible exact H2_)|(have H2_:=(Option.bind_some _ _).symm.trans H;with_reducible exact H2_)|with_reducible exact H|(rw [hy205];exact H)|exact H
  have Ny205:=Aside0.mk hy205
  clear hy205
  have H':=Aside0.mk H
  clear H
  go_enter Tryd.func73,Tryd.ntmps73
  go_wp2_with (first|((with_reducible refine gate_dst (N:=10) rfl ?_);refine Kd.R_lit k46 _ 46 ?hg (N:=10) ?hd (xs:=([]:List (S46))) (inner:=[]) (ok:=fun _=>True) (okp:=fun _=>True) ?hr ?hp (fun _ hk=>hk) trivial (Below.refl _ _) (Nat.le_refl _) (by simp) ?_;(case hd=>rfl);(case hg=>rfl);(case hr=>first|(go_simp;done)|(go_simp;rfl));(case hp=>exact (Reps.none _ _));intro v200 w4 ho5 hb hg_ hnew_;clear hg_ hnew_;(first|rw [← Ny199.out] at ho5|(simp only [Int.reduceToNat] at ho5;rw [← Ny199.out] at ho5));have n0_:=Aside0.mk (Kd.R_lower ho5 (below_size qz1));have n1_:=Aside0.mk (below_step qz1 hb);clear HB;have HO201:=n0_;have HB:=n1_;clear n0_ n1_ hb ho5)|((with_reducible refine gate_dst (N:=11) rfl ?_);refine Kd.R_lit k46 _ 46 ?hg (N:=11) ?hd (xs:=([]:List (S46))) (inner:=[]) (ok:=fun _=>True) (okp:=fun _=>True) ?hr ?hp (fun _ hk=>hk) trivial (Below.refl _ _) (Nat.le_refl _) (by simp) ?_;(case hd=>rfl);(case hg=>rfl);(case hr=>first|(go_simp;done)|(go_simp;rfl));(case hp=>exact (Reps.none _ _));intro v203 w6 ho7 hb hg_ hnew_;clear hg_ hnew_;(first|rw [← Ny202.out] at ho7|(simp only [Int.reduceToNat] at ho7;rw [← Ny202.out] at ho7));have n0_:=Aside0.mk (Kd.R_elder' qz42 (Kd.R_base ho7) hb);have n1_:=Aside0.mk (Kd.R_lower (Kd.R_new' ho7 (Kd.R_lt qz42)) (below_size qz1));have n2_:=Aside0.mk (below_step qz1 hb);clear HO201 HB;have HO201:=n0_;have HO204:=n1_;have HB:=n2_;clear n0_ n1_ n2_ hb ho7)|((with_reducible refine gate_builtin (b:=.append) (xs:=#[.tmp 11,.tmp 12]) rfl ?_);at_builtin;refine Kd.R_append_rows k46 (w0:=w) w.heap.size rfl (.tmp 11) (.tmp 12) 26 46 (.agg #[(.int .i64 0),(.int .i64 0),(.string ⟨#[]⟩)]) 32 rfl Tryd.underlying26 info46 rfl (by decide) (by omega) v203 y202 l1 _ _ _ (fun k_=>some k_≠(v200:Value).ownBlock) (fun _=>False) rfl rfl ?aO ?aR (fun _ _ h=>h) (fun _ h=>h.elim) ?aF ?aB ?aS ?aL ?_;(case aR=>exact qz19);(case aB=>exact qz1);(case aF=>exact (fun k_ hk=>Kd.fresh' (Kd.R_lt qz42) k_ hk));(case aO=>(with_reducible repeat (first|apply Kd.R_alloc|apply Kd.R_drewN|apply Kd.R_drew));exact Kd.R_mono HO204.out (fun _ hk=>hk.2));(case aS=>exact (below_size qz1));(case aL=>have:=LMc3.out;omega);intro v206 w8 ho hb hg hat;rw [← Ny205.out] at ho;have n0_:=Aside0.mk (Kd.R_after (ok:=(fun _=>True)) qz42 hg hat);have n1_:=Aside0.mk (hb);have n2_:=Aside0.mk (ho);clear HO201 HB HO204;have HO201:=n0_;have HB:=n1_;have HO207:=n2_;clear n0_ n1_ n2_ ho hb hg hat))
  go_loopg [6,7] k (fun kq v6 v7 w'=>∃ (x6_1:List (S46)) (x7_1:List (S46)),Aside0 (spec_l2Full.l0 kq l0 x6_1 x7_1=some (r1,r2))∧Aside0 (kq≤k)∧Aside0 (Kd.R k46 46 w' w.heap.size (fun k_=>some k_≠(v7:Value).ownBlock) v6 x6_1)∧Aside0 (Kd.Q k46 46 w' w.heap.size (fun k_=>some k_≠(v6:Value).ownBlock) v7 x7_1)∧Aside0 (Below w.heap.size w w'))
  case atStart=>exact ⟨(y199),(y205),H',⟨Nat.le_refl _⟩,⟨by (with_reducible repeat (first|apply Kd.R_alloc|apply Kd.R_drewN|apply Kd.R_drew));exact Kd.R_mono HO201.out (fun _ hk=>hk.2)⟩,⟨Kd.Q_of_R (by (with_reducible repeat (first|apply Kd.R_alloc|apply Kd.R_drewN|apply Kd.R_drew));exact HO207.out)⟩,⟨qz2⟩⟩
  case round=>
   clear H'
   try clear c1
   try clear p2
   try clear c3
   try clear c7
   obtain ⟨x6_1,x7_1,HA,HK1,HO_6,HO_7,HB⟩:=hrel
   cases gk with
   | zero=>exact absurd HA.out (by simp [spec_l2Full.l0])
   | succ k1=>
    have H:=HA.out
    clear HA
    simp only [spec_l2Full.l0] at H
    by_cases c9:(x7_1.length:Int) > 0
    ·rw [if_pos c9] at H
     have c9b0:decide (0<(x7_1.length:Int))=true:=decide_eq_true c9
     have c9b1:decide (0<x7_1.length)=true:=decide_eq_true (by omega)
     clear c9
     by_cases c10:0<(x7_1.length:Int)
     ·rw [if_pos c10] at H
      have c10b0:decide (0<(x7_1.length:Int))=true:=decide_eq_true c10
      have c10b1:decide (0<x7_1.length)=true:=decide_eq_true (by omega)
      clear c10
      by_cases c11:1≤(x7_1.length:Int)
      ·rw [if_pos c11] at H
       have c11b0:=eq_true c11
       have c11b1:decide (1≤(x7_1.length:Int))=true:=decide_eq_true c11
       clear c11
       obtain ⟨y210,hy210⟩:∃ y_:List (S46),y_=(x7_1.drop (1:Int).toNat):=⟨_,rfl⟩
       replace H:(if ((rd_T46 x7_1 0).f0)=1 then ((spec_l2Get.f k1 l0 ((rd_T46 x7_1 0).f1)).bind fun t216=>(spec_l2Full.j1 k1 l0 x6_1 y210 t216 ((rd_T46 x7_1 0).f0) ((rd_T46 x7_1 0).f1) ((rd_T46 x7_1 0).f2))) else (spec_l2Full.j1 k1 l0 x6_1 y210 (([]:List (S46))) ((rd_T46 x7_1 0).f0) ((rd_T46 x7_1 0).f1) ((rd_T46 x7_1 0).f2)))=some (r1,r2):=by first|(rw [hy210];with_reducible exact H)|(have H2_:=(Option.bind_some _ _).symm.trans H;rw [hy210];with_reducible exact H2_)|(have H2_:=(Option.bind_some _ _).symm.trans H;with_reducible exact H2_)|with_reducible exact H|(rw [hy210];exact H)|exact H
       have Ny210:=Aside0.mk hy210
       clear hy210
       obtain ⟨y213,hy213⟩:∃ y_:List (S46),y_=(([]:List (S46))):=⟨_,rfl⟩
       replace H:(if ((rd_T46 x7_1 0).f0)=1 then ((spec_l2Get.f k1 l0 ((rd_T46 x7_1 0).f1)).bind fun t216=>(spec_l2Full.j1 k1 l0 x6_1 y210 t216 ((rd_T46 x7_1 0).f0) ((rd_T46 x7_1 0).f1) ((rd_T46 x7_1 0).f2))) else (spec_l2Full.j1 k1 l0 x6_1 y210 y213 ((rd_T46 x7_1 0).f0) ((rd_T46 x7_1 0).f1) ((rd_T46 x7_1 0).f2)))=some (r1,r2):=by first|(rw [hy213];with_reducible exact H)|(have H2_:=(Option.bind_some _ _).symm.trans H;rw [hy213];with_reducible exact H2_)|(have H2_:=(Option.bind_some _ _).symm.trans H;with_reducible exact H2_)|with_reducible exact H|(rw [hy213];exact H)|exact H
       have Ny213:=Aside0.mk hy213
       clear hy213
       have HC12:=Aside0.mk H
       clear H
       obtain ⟨Ao13,co13,eo13,_⟩:=Kd.Q_slice HO_7.out
       subst eo13
       have p208:0≤(0:Int):=(by omega)
       have q208:0<(x7_1.length:Int):=of_decide_eq_true qz3
       obtain ⟨ad208,e208,hx208_0,hx208_1,hx208_2⟩:=at_T46 (Kd.Q_reads' HO_7.out).2.2 0 p208 q208
       cases e208
       have qi208:(0<x7_1.length)=True:=eq_true (by omega)
       (try rw [show ((0:Int)).toNat=0 from rfl] at hx208_0)
       (try rw [show 0 * 3=0 from rfl] at hx208_0)
       (try rw [Addr.add_zero'] at hx208_0)
       (try rw [show ((0:Int)).toNat=0 from rfl] at hx208_1)
       (try rw [show 0 * 3=0 from rfl] at hx208_1)
       (try rw [Addr.add_zero'] at hx208_1)
       (try rw [show ((0:Int)).toNat=0 from rfl] at hx208_2)
       (try rw [show 0 * 3=0 from rfl] at hx208_2)
       (try rw [Addr.add_zero'] at hx208_2)
       replace p208:=eq_true p208
       replace q208:=eq_true q208
       go_upto_if 25 with (first|((with_reducible refine gate_dst (N:=8) rfl ?_);refine box_event ?hg (N:=8) ?hd (cs:=#[.int .i64 0,.int .i64 0,.string (⟨#[]⟩:ByteArray)]) (t:=46) ?hr ?_;(case hd=>rfl);(case hg=>rfl);(case hr=>first|(go_simp;done)|(go_simp;rfl));intro gb209 hg w14 hbox hb;have n0_:=Aside0.mk (Kd.R_below (Kd.R_elderB qz9 gb209 (Nat.le_of_eq hg.symm)) hb);have n1_:=Aside0.mk (Kd.Q_below (Kd.Q_elderB qz10 gb209 (Nat.le_of_eq hg.symm)) hb);have n2_:=Aside0.mk (below_step qz1 hb);have n3_:=Aside0.mk (hbox);have n4_:=Aside0.mk ((by rw [hg];exact (below_size qz1):w.heap.size≤gb209));have n5_:=Aside0.mk ((by rw [hg];exact (below_size qz1):w.heap.size≤gb209));clear HO_6 HO_7 HB;have HO_6:=n0_;have HO_7:=n1_;have HB:=n2_;have BK209:=n3_;have GW209:=n4_;have GE209:=n5_;clear n0_ n1_ n2_ n3_ n4_ n5_ hb hbox hg;have hcz15_0:w14.cell? ⟨gb209,0,none⟩=some (.int .i64 0):=(blk_cell BK209.out 0).trans rfl;have hcz15_1:w14.cell? ⟨gb209,1,none⟩=some (.int .i64 0):=(blk_cell BK209.out 1).trans rfl;have hcz15_2:w14.cell? ⟨gb209,2,none⟩=some (.string (⟨#[]⟩:ByteArray)):=(blk_cell BK209.out 2).trans rfl;have hfz15_0:=blk_frozen BK209.out 0;have hfz15_1:=blk_frozen BK209.out 1;have hfz15_2:=blk_frozen BK209.out 2)|((with_reducible refine gate_store (t:=46) (p:=8) rfl ?_);refine store_event (t:=46) (p:=8) (v:=?vo_w16) (w1:=(((w14.setCell ⟨gb209,0,none⟩ (.int .i64 ((rd_T46 x7_1 0).f0))).setCell ⟨gb209,1,none⟩ (.int .i64 ((rd_T46 x7_1 0).f1))).setCell ⟨gb209,2,none⟩ (.string ((rd_T46 x7_1 0).f2)))) ?hg ?ho ?hn ?hr ?_;(case ho=>rfl);(case hg=>rfl);(case hn=>rfl);(case hr=>first|(go_simp;done)|(go_simp;rfl));intro w16 hw;have n0_:Aside0 (Kd.R k46 46 w16 w.heap.size (fun k_=>some k_≠(.slice (some ad208) x7_1.length co13:Value).ownBlock∧k_≠gb209) u6 x6_1):=⟨(by rw [hw];exact (by (with_reducible repeat (first|apply Kd.R_alloc|apply Kd.R_drewN|apply Kd.R_drew));exact Kd.R_mono (Kd.R_far (p:=⟨gb209,2,none⟩) (Kd.R_far (p:=⟨gb209,1,none⟩) (Kd.R_far (p:=⟨gb209,0,none⟩) (Kd.R_mono HO_6.out (fun k_ hk=>(⟨hk,hk.2⟩:_∧k_≠gb209))) (fun _ hk=>hk.2) (.int .i64 ((rd_T46 x7_1 0).f0))) (fun _ hk=>hk.2) (.int .i64 ((rd_T46 x7_1 0).f1))) (fun _ hk=>hk.2) (.string ((rd_T46 x7_1 0).f2))) (fun _ hk=>⟨hk.1.1,hk.1.2⟩)))⟩;have n1_:Aside0 (Kd.Q k46 46 w16 w.heap.size (fun k_=>some k_≠(u6:Value).ownBlock∧k_≠gb209) (.slice (some ad208) x7_1.length co13) x7_1):=⟨(by rw [hw];exact (by (with_reducible repeat (first|apply Kd.Q_alloc|apply Kd.Q_drewN|apply Kd.Q_drew));exact Kd.Q_mono (Kd.Q_far (p:=⟨gb209,2,none⟩) (Kd.Q_far (p:=⟨gb209,1,none⟩) (Kd.Q_far (p:=⟨gb209,0,none⟩) (Kd.Q_mono HO_7.out (fun k_ hk=>(⟨hk,hk.2⟩:_∧k_≠gb209))) (fun _ hk=>hk.2) (.int .i64 ((rd_T46 x7_1 0).f0))) (fun _ hk=>hk.2) (.int .i64 ((rd_T46 x7_1 0).f1))) (fun _ hk=>hk.2) (.string ((rd_T46 x7_1 0).f2))) (fun _ hk=>⟨hk.1.1,hk.1.2⟩)))⟩;have n2_:Aside0 (w16.heap[gb209]?=some (.cells #[.int .i64 ((rd_T46 x7_1 0).f0),.int .i64 ((rd_T46 x7_1 0).f1),.string ((rd_T46 x7_1 0).f2)] 46 (0,0))):=⟨(by rw [hw];exact (by (with_reducible repeat (first|refine blk_drewN ?_ _|refine blk_drew ?_|refine blk_alloc ?_ _));refine blk_put (cs:=#[.int .i64 ((rd_T46 x7_1 0).f0),.int .i64 ((rd_T46 x7_1 0).f1),.string (⟨#[]⟩:ByteArray)]) ?_ 2 _ rfl;(with_reducible repeat (first|refine blk_drewN ?_ _|refine blk_drew ?_|refine blk_alloc ?_ _));refine blk_put (cs:=#[.int .i64 ((rd_T46 x7_1 0).f0),.int .i64 0,.string (⟨#[]⟩:ByteArray)]) ?_ 1 _ rfl;(with_reducible repeat (first|refine blk_drewN ?_ _|refine blk_drew ?_|refine blk_alloc ?_ _));refine blk_put (cs:=#[.int .i64 0,.int .i64 0,.string (⟨#[]⟩:ByteArray)]) ?_ 0 _ rfl;(with_reducible repeat (first|refine blk_drewN ?_ _|refine blk_drew ?_|refine blk_alloc ?_ _));exact BK209.out))⟩;have n3_:Aside0 (Below w.heap.size w w16):=⟨(by rw [hw];exact qz5)⟩;clear hw HO_6 HO_7 BK209 HB;have HO_6:=n0_;have HO_7:=n1_;have BK209:=n2_;have HB:=n3_;clear n0_ n1_ n2_ n3_;have q17:(1:Int)≤((x7_1.length:Int):Int):=of_decide_eq_true qz3;obtain ⟨i017,hi017,_,hsz17,_⟩:=info_parts info46;have hcut17:=cut_from (P:=Tryd.prog) 26 46 .i64 Tryd.underlying26 hi017 3 hsz17 (some ad208) x7_1.length co13 1 (by omega) q17;have hr17:=Kd.Q_drop (k:=(1:Int).toNat) HO_7.out (by omega);obtain ⟨A17,hA17⟩:∃ A1,A1=(if co13=(1:Int).toNat then (some ad208) else ((some ad208):Option Addr).map (·.add ((1:Int).toNat * 3))):=⟨_,rfl⟩;obtain ⟨c17,hc17⟩:∃ c1,c1=co13 - (1:Int).toNat:=⟨_,rfl⟩;have hy17:y210.length=x7_1.length - (1:Int).toNat:=(by rw [Ny210.out,List.length_drop]);rw [← Ny210.out] at hr17;rw [← hy17,← hA17,← hc17] at hcut17;replace hr17:Kd.Q k46 46 w16 w.heap.size (fun k_=>some k_≠(u6:Value).ownBlock∧k_≠gb209) (.slice A17 y210.length c17) y210:=(by rw [hA17,hc17,hy17];exact hr17);have HE17:Aside0 ((Value.slice A17 y210.length c17).ownBlock=(.slice (some ad208) x7_1.length co13:Value).ownBlock):=⟨by rw [hA17];split <;> (cases ((some ad208):Option Addr) <;> rfl)⟩;clear hy17 hi017 hsz17 HO_7 hA17 hc17;have HO212:=Aside0.mk hr17;clear hr17;replace q17:=eq_true q17;have n_:=Aside0.mk (Kd.R_mono (ok':=fun k_=>(some k_≠(.slice A17 y210.length c17:Value).ownBlock∧k_≠gb209)) HO_6.out (fun k_ hk=>⟨(by rw [HE17.out];exact hk.1),hk.2⟩));clear HO_6;have HO_6:=n_;clear n_)|((with_reducible refine gate_dst (N:=22) rfl ?_);refine Kd.R_lit k46 _ 46 ?hg (N:=22) ?hd (xs:=([]:List (S46))) (inner:=[]) (ok:=fun _=>True) (okp:=fun _=>True) ?hr ?hp (fun _ hk=>hk) trivial (Below.refl _ _) (Nat.le_refl _) (by simp) ?_;(case hd=>rfl);(case hg=>rfl);(case hr=>first|(go_simp;done)|(go_simp;rfl));(case hp=>exact (Reps.none _ _));intro v214 w18 ho19 hb hg_ hnew_;clear hg_ hnew_;(first|rw [← Ny213.out] at ho19|(simp only [Int.reduceToNat] at ho19;rw [← Ny213.out] at ho19));have n0_:=Aside0.mk (Kd.R_elder' qz9 (Kd.R_base ho19) hb);have n1_:=Aside0.mk (Kd.Q_elder' qz43 (Kd.R_base ho19) hb);have n2_:=Aside0.mk (Kd.R_lower (Kd.R_newB (Kd.R_new' (Kd.R_new' ho19 (Kd.R_lt qz9)) (Kd.Q_lt qz43)) (g:=gb209) (o:=.cells #[.int .i64 ((rd_T46 x7_1 0).f0),.int .i64 ((rd_T46 x7_1 0).f1),.string ((rd_T46 x7_1 0).f2)] 46 (0,0)) qz7) (below_size qz5));have n3_:=Aside0.mk (blk_below (g:=gb209) (o:=.cells #[.int .i64 ((rd_T46 x7_1 0).f0),.int .i64 ((rd_T46 x7_1 0).f1),.string ((rd_T46 x7_1 0).f2)] 46 (0,0)) qz7 hb);have n4_:=Aside0.mk (below_step qz5 hb);clear HO_6 HO212 BK209 HB;have HO_6:=n0_;have HO212:=n1_;have HO215:=n2_;have BK209:=n3_;have HB:=n4_;clear n0_ n1_ n2_ n3_ n4_ hb ho19;have hcz20_0:w18.cell? ⟨gb209,0,none⟩=some (.int .i64 ((rd_T46 x7_1 0).f0)):=(blk_cell BK209.out 0).trans rfl;have hcz20_1:w18.cell? ⟨gb209,1,none⟩=some (.int .i64 ((rd_T46 x7_1 0).f1)):=(blk_cell BK209.out 1).trans rfl;have hcz20_2:w18.cell? ⟨gb209,2,none⟩=some (.string ((rd_T46 x7_1 0).f2)):=(blk_cell BK209.out 2).trans rfl;have hfz20_0:=blk_frozen BK209.out 0;have hfz20_1:=blk_frozen BK209.out 1;have hfz20_2:=blk_frozen BK209.out 2))
       (try simp only [Act.put,List.setIfInBounds_toArray,List.set_cons_zero,List.set_cons_succ])
       go_cut [9] (fun v9 wc=>∃ (kq:Nat) (x9_11:List (S46)),Aside0 (spec_l2Full.j1 kq l0 x6_1 y210 x9_11 ((rd_T46 x7_1 0).f0) ((rd_T46 x7_1 0).f1) ((rd_T46 x7_1 0).f2)=some (r1,r2))∧Aside0 (kq≤k1)∧Aside0 (Kd.R k46 46 wc w.heap.size (fun k_=>some k_≠((.slice A17 y210.length c17):Value).ownBlock∧k_≠gb209) u6 x6_1)∧Aside0 (Kd.Q k46 46 wc w.heap.size (fun k_=>some k_≠(u6:Value).ownBlock∧k_≠gb209) (.slice A17 y210.length c17) y210)∧Aside0 (Kd.V k46 46 wc w.heap.size (fun k_=>some k_≠(u6:Value).ownBlock∧some k_≠((.slice A17 y210.length c17):Value).ownBlock∧k_≠gb209) v9 x9_11)∧Aside0 (wc.heap[gb209]?=some (.cells #[.int .i64 ((rd_T46 x7_1 0).f0),.int .i64 ((rd_T46 x7_1 0).f1),.string ((rd_T46 x7_1 0).f2)] 46 (0,0)))∧Aside0 (Below w.heap.size w wc))
       case first=>
        have H:=HC12.out
        clear HC12
        by_cases c21:((rd_T46 x7_1 0).f0)=1
        ·rw [if_pos c21] at H
         have c21b0:(((rd_T46 x7_1 0).f0) == 1)=true:=beq_iff_eq.mpr c21
         have c21b1:(((rd_T46 x7_1 0).f0) != 1)=false:=bne_eq_false_iff_eq.mpr c21
         clear c21
         (first|rw [c21b0]|(simp only [i64_w,i32_w];rw [c21b0])|skip)
         replace H:=Option.bind_eq_some_iff.mp H
         obtain ⟨t216,A220,H⟩:=H
         replace H:(spec_l2Full.j1 k1 l0 x6_1 y210 t216 ((rd_T46 x7_1 0).f0) ((rd_T46 x7_1 0).f1) ((rd_T46 x7_1 0).f2))=some (r1,r2):=H
         have A22:=Aside0.mk A220
         clear A220
         have H':=Aside0.mk H
         clear H
         have hcz23_0:w18.cell? ⟨gb209,0,none⟩=some (.int .i64 ((rd_T46 x7_1 0).f0)):=(blk_cell BK209.out 0).trans rfl
         have hcz23_1:w18.cell? ⟨gb209,1,none⟩=some (.int .i64 ((rd_T46 x7_1 0).f1)):=(blk_cell BK209.out 1).trans rfl
         have hcz23_2:w18.cell? ⟨gb209,2,none⟩=some (.string ((rd_T46 x7_1 0).f2)):=(blk_cell BK209.out 2).trans rfl
         have hfz23_0:=blk_frozen BK209.out 0
         have hfz23_1:=blk_frozen BK209.out 1
         have hfz23_2:=blk_frozen BK209.out 2
         go_wp2_with (first|((with_reducible refine gate_callee (f:=92) rfl ?_);refine goesL_ (some 29) rfl rfl Tryd.func92 (by kernel_rfl) rfl #[.slice A0 l0.length c0,.int .i64 ((rd_T46 x7_1 0).f1)] rfl qz8 ?_;(with_reducible refine (spec_l2Get.calls k1 (fun k_=>k_<w.heap.size) _ _ l0 ((rd_T46 x7_1 0).f1) t216 _ ?side1 A22.out).mono ?_);(case side1=>exact Kd.V_mk HC0.out (Kd.F_below (Kd.C_F k30_heap HR0.out) qz5));rintro e w24 ⟨v217,rfl,ho0,hb⟩;refine ⟨_,rfl,?_⟩;have n0_:=Aside0.mk (Kd.R_below qz9 hb);have n1_:=Aside0.mk (Kd.Q_below qz43 hb);have n2_:=Aside0.mk (Kd.R_below (by (with_reducible repeat (first|apply Kd.R_alloc|apply Kd.R_drewN|apply Kd.R_drew));exact HO215.out) hb);have n3_:=Aside0.mk (Kd.V_lower (Kd.V_mono (ok':=fun k_=>some k_≠(u6:Value).ownBlock∧some k_≠(.slice A17 y210.length c17:Value).ownBlock∧some k_≠(v214:Value).ownBlock∧k_≠gb209) ho0 (fun k_ hk_=>⟨Or.elim hk_ (fun hs_=>fun e_=>Nat.not_le.2 hs_ (Kd.R_base HO_6.out k_ e_.symm)) (fun hn_=>(Kd.fresh' (Kd.R_lt qz9) k_ hn_)),Or.elim hk_ (fun hs_=>fun e_=>Nat.not_le.2 hs_ (Kd.Q_base HO212.out k_ e_.symm)) (fun hn_=>(Kd.fresh' (Kd.Q_lt qz43) k_ hn_)),Or.elim hk_ (fun hs_=>fun e_=>Nat.not_le.2 hs_ (Kd.R_base HO215.out k_ e_.symm)) (fun hn_=>(Kd.fresh' (Kd.R_lt (by (with_reducible repeat (first|apply Kd.R_alloc|apply Kd.R_drewN|apply Kd.R_drew));exact HO215.out)) k_ hn_)),Or.elim hk_ (fun hs_=>fun e_=>Nat.not_le.2 hs_ (by rw [e_];exact GW209.out)) (fun hn_=>(Kd.freshB (g:=gb209) (o:=.cells #[.int .i64 ((rd_T46 x7_1 0).f0),.int .i64 ((rd_T46 x7_1 0).f1),.string ((rd_T46 x7_1 0).f2)] 46 (0,0)) qz7 k_ hn_))⟩)) (below_size qz5));have n4_:=Aside0.mk (blk_below (g:=gb209) (o:=.cells #[.int .i64 ((rd_T46 x7_1 0).f0),.int .i64 ((rd_T46 x7_1 0).f1),.string ((rd_T46 x7_1 0).f2)] 46 (0,0)) qz7 hb);have n5_:=Aside0.mk (below_step qz5 hb);clear HO_6 HO212 HO215 BK209 HB;have HO_6:=n0_;have HO212:=n1_;have HO215:=n2_;have HO218:=n3_;have BK209:=n4_;have HB:=n5_;clear n0_ n1_ n2_ n3_ n4_ n5_;(try clear hb);(try clear hb2);(try clear hk);(try clear hi);(try clear ho0)))
         go_meet
         case rel=>exact ⟨_,(t216),H',⟨qz44⟩,⟨qz64⟩,⟨qz63⟩,⟨by (with_reducible repeat (first|apply Kd.V_alloc|apply Kd.V_drewN|apply Kd.V_drew));exact Kd.V_mono HO218.out (fun _ hk=>⟨hk.1,⟨hk.2.1,hk.2.2.2⟩⟩)⟩,⟨qz7⟩,⟨qz5⟩⟩
        ·rw [if_neg c21] at H
         have c21b0:(((rd_T46 x7_1 0).f0) == 1)=false:=beq_eq_false_iff_ne.mpr c21
         have c21b1:(((rd_T46 x7_1 0).f0) != 1)=true:=bne_iff_ne.mpr c21
         (first|rw [c21b0]|(simp only [i64_w,i32_w];rw [c21b0])|skip)
         have H':=Aside0.mk H
         clear H
         go_wp2
         go_meet
         case rel=>exact ⟨_,(y213),H',⟨qz44⟩,⟨qz64⟩,⟨qz63⟩,⟨Kd.R_V (by (with_reducible repeat (first|apply Kd.R_alloc|apply Kd.R_drewN|apply Kd.R_drew));exact Kd.R_mono HO215.out (fun _ hk=>⟨hk.1.1.2,⟨hk.1.2,hk.2⟩⟩))⟩,⟨qz7⟩,⟨qz5⟩⟩
       case rest=>
        clear HC12
        try clear c1
        try clear q1
        try clear c2
        try clear p2
        try clear q2
        try clear hx2
        try clear qi2
        try clear c3
        try clear c7
        try clear c9
        try clear c9b0
        try clear c9b1
        try clear c10
        try clear c10b0
        try clear c10b1
        try clear c11
        try clear c11b0
        try clear c11b1
        try clear c17
        try clear q17
        try clear p20
        try clear q20
        try clear hx20
        try clear qi20
        try clear c21
        try clear c21b0
        try clear c21b1
        try clear hcz15_0
        try clear hcz15_1
        try clear hcz15_2
        try clear hcz20_0
        try clear hcz20_1
        try clear hcz20_2
        try clear hcz23_0
        try clear hcz23_1
        try clear hcz23_2
        try clear hfz15_0
        try clear hfz15_1
        try clear hfz15_2
        try clear hfz20_0
        try clear hfz20_1
        try clear hfz20_2
        try clear hfz23_0
        try clear hfz23_1
        try clear hfz23_2
        try clear hx208_0
        try clear hx208_1
        try clear hx208_2
        try clear p2
        try clear p208
        try clear q17
        try clear q208
        obtain ⟨kq,x9_11,HA,HJ11,HO_6,HO_7,HO_9,BK209,HB⟩:=hcut
        cases kq with
        | zero=>exact absurd HA.out (by simp [spec_l2Full.j1])
        | succ kj11=>
         have H:=HA.out
         clear HA
         simp only [spec_l2Full.j1] at H
         by_cases c25:(x9_11.length:Int) > 0
         ·rw [if_pos c25] at H
          have c25b0:decide (0<(x9_11.length:Int))=true:=decide_eq_true c25
          have c25b1:decide (0<x9_11.length)=true:=decide_eq_true (by omega)
          clear c25
          obtain ⟨y219,hy219⟩:∃ y_:List (S46),y_=(([]:List (S46))):=⟨_,rfl⟩
          replace H:(if y219.length+x9_11.length<4398046511104 then ((some (y219++x9_11:List (S46))).bind fun y222=>(if y222.length+y210.length<4398046511104 then ((some (y222++y210:List (S46))).bind fun y225=>(if (wrap64 ((x6_1.length:Int)+(y225.length:Int))) > 40 then (some ((([]:List (S46))),false)) else (spec_l2Full.l0 kj11 l0 x6_1 y225))) else (none))) else (none))=some (r1,r2):=by first|(rw [hy219];with_reducible exact H)|(have H2_:=(Option.bind_some _ _).symm.trans H;rw [hy219];with_reducible exact H2_)|(have H2_:=(Option.bind_some _ _).symm.trans H;with_reducible exact H2_)|with_reducible exact H|(rw [hy219];exact H)|exact H
          have Ny219:=Aside0.mk hy219
          clear hy219
          by_cases c26:y219.length+x9_11.length<4398046511104
          ·rw [if_pos c26] at H
           have LMc26:=Aside0.mk c26
           clear c26
           obtain ⟨y222,hy222⟩:∃ y_:List (S46),y_=(y219++x9_11):=⟨_,rfl⟩
           replace H:(if y222.length+y210.length<4398046511104 then ((some (y222++y210:List (S46))).bind fun y225=>(if (wrap64 ((x6_1.length:Int)+(y225.length:Int))) > 40 then (some ((([]:List (S46))),false)) else (spec_l2Full.l0 kj11 l0 x6_1 y225))) else (none))=some (r1,r2):=by first|(rw [hy222];with_reducible exact H)|(have H2_:=(Option.bind_some _ _).symm.trans H;rw [hy222];with_reducible exact H2_)|(have H2_:=(Option.bind_some _ _).symm.trans H;with_reducible exact H2_)|with_reducible exact H|(rw [hy222];exact H)|exact H
           have Ny222:=Aside0.mk hy222
           clear hy222
           by_cases c27:y222.length+y210.length<4398046511104
           ·rw [if_pos c27] at H
            have LMc27:=Aside0.mk c27
            clear c27
            obtain ⟨y225,hy225⟩:∃ y_:List (S46),y_=(y222++y210):=⟨_,rfl⟩
            replace H:(if (wrap64 ((x6_1.length:Int)+(y225.length:Int))) > 40 then (some ((([]:List (S46))),false)) else (spec_l2Full.l0 kj11 l0 x6_1 y225))=some (r1,r2):=by first|(rw [hy225];with_reducible exact H)|(have H2_:=(Option.bind_some _ _).symm.trans H;rw [hy225];with_reducible exact H2_)|(have H2_:=(Option.bind_some _ _).symm.trans H;with_reducible exact H2_)|with_reducible exact H|(rw [hy225];exact H)|exact H
            have Ny225:=Aside0.mk hy225
            clear hy225
            by_cases c28:(wrap64 ((x6_1.length:Int)+(y225.length:Int))) > 40
            ·rw [if_pos c28] at H
             have c28b0:decide (40<(wrap64 ((x6_1.length:Int)+(y225.length:Int))))=true:=decide_eq_true c28
             clear c28
             obtain ⟨y228,hy228⟩:∃ y_:List (S46),y_=(([]:List (S46))):=⟨_,rfl⟩
             replace H:(some (y228,false))=some (r1,r2):=by first|(rw [hy228];with_reducible exact H)|(have H2_:=(Option.bind_some _ _).symm.trans H;rw [hy228];with_reducible exact H2_)|(have H2_:=(Option.bind_some _ _).symm.trans H;with_reducible exact H2_)|with_reducible exact H|(rw [hy228];exact H)|exact H
             have Ny228:=Aside0.mk hy228
             clear hy228
             simp only [Option.some.injEq,Prod.mk.injEq] at H
             obtain ⟨rfl,rfl⟩:=H
             obtain ⟨Ao29,co29,eo29⟩:=Kd.V_slice HO_9.out
             subst eo29
             go_wp2_with (first|((with_reducible refine gate_dst (N:=33) rfl ?_);refine Kd.R_lit k46 _ 46 ?hg (N:=33) ?hd (xs:=([]:List (S46))) (inner:=[]) (ok:=fun _=>True) (okp:=fun _=>True) ?hr ?hp (fun _ hk=>hk) trivial (Below.refl _ _) (Nat.le_refl _) (by simp) ?_;(case hd=>rfl);(case hg=>rfl);(case hr=>first|(go_simp;done)|(go_simp;rfl));(case hp=>exact (Reps.none _ _));intro v220 w30 ho31 hb hg_ hnew_;clear hg_ hnew_;(first|rw [← Ny219.out] at ho31|(simp only [Int.reduceToNat] at ho31;rw [← Ny219.out] at ho31));have n0_:=Aside0.mk (Kd.R_elder' qz9 (Kd.R_base ho31) hb);have n1_:=Aside0.mk (Kd.Q_elder' qz10 (Kd.R_base ho31) hb);have n2_:=Aside0.mk (Kd.V_elder' qz25 (Kd.R_base ho31) hb);have n3_:=Aside0.mk (Kd.R_lower (Kd.R_newB (Kd.R_new' (Kd.R_new' ho31 (Kd.R_lt qz9)) (Kd.Q_lt qz10)) (g:=gb209) (o:=.cells #[.int .i64 ((rd_T46 x7_1 0).f0),.int .i64 ((rd_T46 x7_1 0).f1),.string ((rd_T46 x7_1 0).f2)] 46 (0,0)) qz7) (below_size qz5));have n4_:=Aside0.mk (blk_below (g:=gb209) (o:=.cells #[.int .i64 ((rd_T46 x7_1 0).f0),.int .i64 ((rd_T46 x7_1 0).f1),.string ((rd_T46 x7_1 0).f2)] 46 (0,0)) qz7 hb);have n5_:=Aside0.mk (below_step qz5 hb);clear HO_6 HO_7 HO_9 BK209 HB;have HO_6:=n0_;have HO_7:=n1_;have HO_9:=n2_;have HO221:=n3_;have BK209:=n4_;have HB:=n5_;clear n0_ n1_ n2_ n3_ n4_ n5_ hb ho31)|((with_reducible refine gate_builtin (b:=.append) (xs:=#[.tmp 33,.tmp 34]) rfl ?_);at_builtin;refine Kd.R_append_rows k46 (w0:=w) w.heap.size rfl (.tmp 33) (.tmp 34) 26 46 (.agg #[(.int .i64 0),(.int .i64 0),(.string ⟨#[]⟩)]) 32 rfl Tryd.underlying26 info46 rfl (by decide) (by omega) v220 y219 x9_11 _ _ _ (fun k_=>some k_≠(u6:Value).ownBlock∧some k_≠(.slice A17 y210.length c17:Value).ownBlock∧k_≠gb209) (fun _=>False) rfl rfl ?aO ?aR (fun _ _ h=>h) (fun _ h=>h.elim) ?aF ?aB ?aS ?aL ?_;(case aR=>exact qz54);(case aB=>exact qz5);(case aF=>exact (fun k_ hk=>⟨Kd.fresh' (Kd.R_lt qz9) k_ hk,Kd.fresh' (Kd.Q_lt qz10) k_ hk,Kd.freshB (g:=gb209) (o:=.cells #[.int .i64 ((rd_T46 x7_1 0).f0),.int .i64 ((rd_T46 x7_1 0).f1),.string ((rd_T46 x7_1 0).f2)] 46 (0,0)) qz7 k_ hk⟩));(case aO=>exact qz60);(case aS=>exact (below_size qz5));(case aL=>have:=LMc26.out;omega);intro v223 w32 ho hb hg hat;rw [← Ny222.out] at ho;have n0_:=Aside0.mk (Kd.R_after (ok:=(fun k_=>some k_≠(.slice A17 y210.length c17:Value).ownBlock∧k_≠gb209)) qz9 hg hat);have n1_:=Aside0.mk (Kd.Q_after (ok:=(fun k_=>some k_≠(u6:Value).ownBlock∧k_≠gb209)) qz10 hg hat);have n2_:=Aside0.mk (Kd.V_afterv (ok:=(fun k_=>some k_≠(u6:Value).ownBlock∧some k_≠(.slice A17 y210.length c17:Value).ownBlock∧k_≠gb209)) qz25 hg hat);have n3_:=Aside0.mk (blk_grown (g:=gb209) (o:=.cells #[.int .i64 ((rd_T46 x7_1 0).f0),.int .i64 ((rd_T46 x7_1 0).f1),.string ((rd_T46 x7_1 0).f2)] 46 (0,0)) qz7 hg (Kd.R_away HO221.out (fun _ hk=>hk.2)));have n4_:=Aside0.mk (hb);have n5_:=Aside0.mk (ho);clear HO_6 HO_7 HO_9 BK209 HB HO221;have HO_6:=n0_;have HO_7:=n1_;have HO_9:=n2_;have BK209:=n3_;have HB:=n4_;have HO224:=n5_;clear n0_ n1_ n2_ n3_ n4_ n5_ ho hb hg hat)|((with_reducible refine gate_builtin (b:=.append) (xs:=#[.tmp 35,.tmp 36]) rfl ?_);at_builtin;refine Kd.R_append_rows k46 (w0:=w) w.heap.size rfl (.tmp 35) (.tmp 36) 26 46 (.agg #[(.int .i64 0),(.int .i64 0),(.string ⟨#[]⟩)]) 32 rfl Tryd.underlying26 info46 rfl (by decide) (by omega) v223 y222 y210 _ _ _ (fun k_=>some k_≠(u6:Value).ownBlock∧some k_≠(.slice A17 y210.length c17:Value).ownBlock∧k_≠gb209) (fun _=>False) rfl rfl ?aO ?aR (fun _ _ h=>h) (fun _ h=>h.elim) ?aF ?aB ?aS ?aL ?_;(case aR=>exact qz57);(case aB=>exact qz5);(case aF=>exact (fun k_ hk=>⟨Kd.fresh' (Kd.R_lt qz9) k_ hk,Kd.fresh' (Kd.Q_lt qz10) k_ hk,Kd.freshB (g:=gb209) (o:=.cells #[.int .i64 ((rd_T46 x7_1 0).f0),.int .i64 ((rd_T46 x7_1 0).f1),.string ((rd_T46 x7_1 0).f2)] 46 (0,0)) qz7 k_ hk⟩));(case aO=>(with_reducible repeat (first|apply Kd.R_alloc|apply Kd.R_drewN|apply Kd.R_drew));exact HO224.out);(case aS=>exact (below_size qz5));(case aL=>have:=LMc27.out;omega);intro v226 w33 ho hb hg hat;rw [← Ny225.out] at ho;have n0_:=Aside0.mk (Kd.R_after (ok:=(fun k_=>some k_≠(.slice A17 y210.length c17:Value).ownBlock∧k_≠gb209)) qz9 hg hat);have n1_:=Aside0.mk (Kd.Q_after (ok:=(fun k_=>some k_≠(u6:Value).ownBlock∧k_≠gb209)) qz10 hg hat);have n2_:=Aside0.mk (Kd.V_afterv (ok:=(fun k_=>some k_≠(u6:Value).ownBlock∧some k_≠(.slice A17 y210.length c17:Value).ownBlock∧k_≠gb209)) qz25 hg hat);have n3_:=Aside0.mk (blk_grown (g:=gb209) (o:=.cells #[.int .i64 ((rd_T46 x7_1 0).f0),.int .i64 ((rd_T46 x7_1 0).f1),.string ((rd_T46 x7_1 0).f2)] 46 (0,0)) qz7 hg (Kd.R_away HO224.out (fun _ hk=>hk.2.2)));have n4_:=Aside0.mk (hb);have n5_:=Aside0.mk (ho);clear HO_6 HO_7 HO_9 BK209 HB HO224;have HO_6:=n0_;have HO_7:=n1_;have HO_9:=n2_;have BK209:=n3_;have HB:=n4_;have HO227:=n5_;clear n0_ n1_ n2_ n3_ n4_ n5_ ho hb hg hat;obtain ⟨Ao34,co34,eo34⟩:=Kd.R_slice HO_6.out;subst eo34;obtain ⟨Ao35,co35,eo35⟩:=Kd.R_slice HO227.out;subst eo35)|((with_reducible refine gate_dst (N:=48) rfl ?_);refine Kd.R_lit k46 _ 46 ?hg (N:=48) ?hd (xs:=([]:List (S46))) (inner:=[]) (ok:=fun _=>True) (okp:=fun _=>True) ?hr ?hp (fun _ hk=>hk) trivial (Below.refl _ _) (Nat.le_refl _) (by simp) ?_;(case hd=>rfl);(case hg=>rfl);(case hr=>first|(go_simp;done)|(go_simp;rfl));(case hp=>exact (Reps.none _ _));intro v229 w36 ho37 hb hg_ hnew_;clear hg_ hnew_;(first|rw [← Ny228.out] at ho37|(simp only [Int.reduceToNat] at ho37;rw [← Ny228.out] at ho37));have n0_:=Aside0.mk (Kd.R_elder' qz9 (Kd.R_base ho37) hb);have n1_:=Aside0.mk (Kd.Q_elder' qz10 (Kd.R_base ho37) hb);have n2_:=Aside0.mk (Kd.V_elder' qz25 (Kd.R_base ho37) hb);have n3_:=Aside0.mk (Kd.R_elder' (by (with_reducible repeat (first|apply Kd.R_alloc|apply Kd.R_drewN|apply Kd.R_drew));exact HO227.out) (Kd.R_base ho37) hb);have n4_:=Aside0.mk (Kd.R_lower (Kd.R_newB (Kd.R_new' (Kd.R_new' (Kd.R_new' ho37 (Kd.R_lt qz9)) (Kd.Q_lt qz10)) (Kd.R_lt (by (with_reducible repeat (first|apply Kd.R_alloc|apply Kd.R_drewN|apply Kd.R_drew));exact HO227.out))) (g:=gb209) (o:=.cells #[.int .i64 ((rd_T46 x7_1 0).f0),.int .i64 ((rd_T46 x7_1 0).f1),.string ((rd_T46 x7_1 0).f2)] 46 (0,0)) qz7) (below_size qz5));have n5_:=Aside0.mk (blk_below (g:=gb209) (o:=.cells #[.int .i64 ((rd_T46 x7_1 0).f0),.int .i64 ((rd_T46 x7_1 0).f1),.string ((rd_T46 x7_1 0).f2)] 46 (0,0)) qz7 hb);have n6_:=Aside0.mk (below_step qz5 hb);clear HO_6 HO_7 HO_9 HO227 BK209 HB;have HO_6:=n0_;have HO_7:=n1_;have HO_9:=n2_;have HO227:=n3_;have HO230:=n4_;have BK209:=n5_;have HB:=n6_;clear n0_ n1_ n2_ n3_ n4_ n5_ n6_ hb ho37))
             go_ret2
             exact ⟨_,qz4,by (with_reducible repeat (first|apply Kd.R_alloc|apply Kd.R_drewN|apply Kd.R_drew));exact Kd.R_mono HO230.out (fun _ hk=>trivial),qz5⟩
            ·rw [if_neg c28] at H
             have c28b0:decide (40<(wrap64 ((x6_1.length:Int)+(y225.length:Int))))=false:=decide_eq_false c28
             clear c28
             have H':=Aside0.mk H
             clear H
             obtain ⟨Ao38,co38,eo38⟩:=Kd.V_slice HO_9.out
             subst eo38
             go_wp2_with (first|((with_reducible refine gate_dst (N:=33) rfl ?_);refine Kd.R_lit k46 _ 46 ?hg (N:=33) ?hd (xs:=([]:List (S46))) (inner:=[]) (ok:=fun _=>True) (okp:=fun _=>True) ?hr ?hp (fun _ hk=>hk) trivial (Below.refl _ _) (Nat.le_refl _) (by simp) ?_;(case hd=>rfl);(case hg=>rfl);(case hr=>first|(go_simp;done)|(go_simp;rfl));(case hp=>exact (Reps.none _ _));intro v220 w39 ho40 hb hg_ hnew_;clear hg_ hnew_;(first|rw [← Ny219.out] at ho40|(simp only [Int.reduceToNat] at ho40;rw [← Ny219.out] at ho40));have n0_:=Aside0.mk (Kd.R_elder' qz9 (Kd.R_base ho40) hb);have n1_:=Aside0.mk (Kd.Q_elder' qz10 (Kd.R_base ho40) hb);have n2_:=Aside0.mk (Kd.V_elder' qz25 (Kd.R_base ho40) hb);have n3_:=Aside0.mk (Kd.R_lower (Kd.R_newB (Kd.R_new' (Kd.R_new' ho40 (Kd.R_lt qz9)) (Kd.Q_lt qz10)) (g:=gb209) (o:=.cells #[.int .i64 ((rd_T46 x7_1 0).f0),.int .i64 ((rd_T46 x7_1 0).f1),.string ((rd_T46 x7_1 0).f2)] 46 (0,0)) qz7) (below_size qz5));have n4_:=Aside0.mk (blk_below (g:=gb209) (o:=.cells #[.int .i64 ((rd_T46 x7_1 0).f0),.int .i64 ((rd_T46 x7_1 0).f1),.string ((rd_T46 x7_1 0).f2)] 46 (0,0)) qz7 hb);have n5_:=Aside0.mk (below_step qz5 hb);clear HO_6 HO_7 HO_9 BK209 HB;have HO_6:=n0_;have HO_7:=n1_;have HO_9:=n2_;have HO221:=n3_;have BK209:=n4_;have HB:=n5_;clear n0_ n1_ n2_ n3_ n4_ n5_ hb ho40)|((with_reducible refine gate_builtin (b:=.append) (xs:=#[.tmp 33,.tmp 34]) rfl ?_);at_builtin;refine Kd.R_append_rows k46 (w0:=w) w.heap.size rfl (.tmp 33) (.tmp 34) 26 46 (.agg #[(.int .i64 0),(.int .i64 0),(.string ⟨#[]⟩)]) 32 rfl Tryd.underlying26 info46 rfl (by decide) (by omega) v220 y219 x9_11 _ _ _ (fun k_=>some k_≠(u6:Value).ownBlock∧some k_≠(.slice A17 y210.length c17:Value).ownBlock∧k_≠gb209) (fun _=>False) rfl rfl ?aO ?aR (fun _ _ h=>h) (fun _ h=>h.elim) ?aF ?aB ?aS ?aL ?_;(case aR=>exact qz54);(case aB=>exact qz5);(case aF=>exact (fun k_ hk=>⟨Kd.fresh' (Kd.R_lt qz9) k_ hk,Kd.fresh' (Kd.Q_lt qz10) k_ hk,Kd.freshB (g:=gb209) (o:=.cells #[.int .i64 ((rd_T46 x7_1 0).f0),.int .i64 ((rd_T46 x7_1 0).f1),.string ((rd_T46 x7_1 0).f2)] 46 (0,0)) qz7 k_ hk⟩));(case aO=>exact qz60);(case aS=>exact (below_size qz5));(case aL=>have:=LMc26.out;omega);intro v223 w41 ho hb hg hat;rw [← Ny222.out] at ho;have n0_:=Aside0.mk (Kd.R_after (ok:=(fun k_=>some k_≠(.slice A17 y210.length c17:Value).ownBlock∧k_≠gb209)) qz9 hg hat);have n1_:=Aside0.mk (Kd.Q_after (ok:=(fun k_=>some k_≠(u6:Value).ownBlock∧k_≠gb209)) qz10 hg hat);have n2_:=Aside0.mk (Kd.V_afterv (ok:=(fun k_=>some k_≠(u6:Value).ownBlock∧some k_≠(.slice A17 y210.length c17:Value).ownBlock∧k_≠gb209)) qz25 hg hat);have n3_:=Aside0.mk (blk_grown (g:=gb209) (o:=.cells #[.int .i64 ((rd_T46 x7_1 0).f0),.int .i64 ((rd_T46 x7_1 0).f1),.string ((rd_T46 x7_1 0).f2)] 46 (0,0)) qz7 hg (Kd.R_away HO221.out (fun _ hk=>hk.2)));have n4_:=Aside0.mk (hb);have n5_:=Aside0.mk (ho);clear HO_6 HO_7 HO_9 BK209 HB HO221;have HO_6:=n0_;have HO_7:=n1_;have HO_9:=n2_;have BK209:=n3_;have HB:=n4_;have HO224:=n5_;clear n0_ n1_ n2_ n3_ n4_ n5_ ho hb hg hat)|((with_reducible refine gate_builtin (b:=.append) (xs:=#[.tmp 35,.tmp 36]) rfl ?_);at_builtin;refine Kd.R_append_rows k46 (w0:=w) w.heap.size rfl (.tmp 35) (.tmp 36) 26 46 (.agg #[(.int .i64 0),(.int .i64 0),(.string ⟨#[]⟩)]) 32 rfl Tryd.underlying26 info46 rfl (by decide) (by omega) v223 y222 y210 _ _ _ (fun k_=>some k_≠(u6:Value).ownBlock∧some k_≠(.slice A17 y210.length c17:Value).ownBlock∧k_≠gb209) (fun _=>False) rfl rfl ?aO ?aR (fun _ _ h=>h) (fun _ h=>h.elim) ?aF ?aB ?aS ?aL ?_;(case aR=>exact qz57);(case aB=>exact qz5);(case aF=>exact (fun k_ hk=>⟨Kd.fresh' (Kd.R_lt qz9) k_ hk,Kd.fresh' (Kd.Q_lt qz10) k_ hk,Kd.freshB (g:=gb209) (o:=.cells #[.int .i64 ((rd_T46 x7_1 0).f0),.int .i64 ((rd_T46 x7_1 0).f1),.string ((rd_T46 x7_1 0).f2)] 46 (0,0)) qz7 k_ hk⟩));(case aO=>(with_reducible repeat (first|apply Kd.R_alloc|apply Kd.R_drewN|apply Kd.R_drew));exact HO224.out);(case aS=>exact (below_size qz5));(case aL=>have:=LMc27.out;omega);intro v226 w42 ho hb hg hat;rw [← Ny225.out] at ho;have n0_:=Aside0.mk (Kd.R_after (ok:=(fun k_=>some k_≠(.slice A17 y210.length c17:Value).ownBlock∧k_≠gb209)) qz9 hg hat);have n1_:=Aside0.mk (Kd.Q_after (ok:=(fun k_=>some k_≠(u6:Value).ownBlock∧k_≠gb209)) qz10 hg hat);have n2_:=Aside0.mk (Kd.V_afterv (ok:=(fun k_=>some k_≠(u6:Value).ownBlock∧some k_≠(.slice A17 y210.length c17:Value).ownBlock∧k_≠gb209)) qz25 hg hat);have n3_:=Aside0.mk (blk_grown (g:=gb209) (o:=.cells #[.int .i64 ((rd_T46 x7_1 0).f0),.int .i64 ((rd_T46 x7_1 0).f1),.string ((rd_T46 x7_1 0).f2)] 46 (0,0)) qz7 hg (Kd.R_away HO224.out (fun _ hk=>hk.2.2)));have n4_:=Aside0.mk (hb);have n5_:=Aside0.mk (ho);clear HO_6 HO_7 HO_9 BK209 HB HO224;have HO_6:=n0_;have HO_7:=n1_;have HO_9:=n2_;have BK209:=n3_;have HB:=n4_;have HO227:=n5_;clear n0_ n1_ n2_ n3_ n4_ n5_ ho hb hg hat;obtain ⟨Ao43,co43,eo43⟩:=Kd.R_slice HO_6.out;subst eo43;obtain ⟨Ao44,co44,eo44⟩:=Kd.R_slice HO227.out;subst eo44))
             go_roundg kj11
             case measure=>have:=HK1.out;have:=HJ11.out;omega
             case rel=>exact ⟨(x6_1),(y225),H',⟨by have:=HK1.out;have:=HJ11.out;omega⟩,⟨by (with_reducible repeat (first|apply Kd.R_alloc|apply Kd.R_drewN|apply Kd.R_drew));exact Kd.R_mono HO_6.out (fun _ hk=>hk.2)⟩,⟨Kd.Q_of_R (by (with_reducible repeat (first|apply Kd.R_alloc|apply Kd.R_drewN|apply Kd.R_drew));exact Kd.R_mono HO227.out (fun _ hk=>hk.1))⟩,⟨qz5⟩⟩
           ·rw [if_neg c27] at H
            exact absurd H (by simp)
          ·rw [if_neg c26] at H
           exact absurd H (by simp)
         ·rw [if_neg c25] at H
          have c25b0:decide (0<(x9_11.length:Int))=false:=decide_eq_false c25
          have c25b1:decide (0<x9_11.length)=false:=decide_eq_false (by omega)
          clear c25
          by_cases c45:x6_1.length<4398046511104
          ·rw [if_pos c45] at H
           have LMc45:=Aside0.mk c45
           clear c45
           obtain ⟨y231,hy231⟩:∃ y_:List (S46),y_=(x6_1++[(⟨((rd_T46 x7_1 0).f0),((rd_T46 x7_1 0).f1),((rd_T46 x7_1 0).f2)⟩:S46)]):=⟨_,rfl⟩
           replace H:(if (wrap64 ((y231.length:Int)+(y210.length:Int))) > 40 then (some ((([]:List (S46))),false)) else (spec_l2Full.l0 kj11 l0 y231 y210))=some (r1,r2):=by first|(rw [hy231];with_reducible exact H)|(have H2_:=(Option.bind_some _ _).symm.trans H;rw [hy231];with_reducible exact H2_)|(have H2_:=(Option.bind_some _ _).symm.trans H;with_reducible exact H2_)|with_reducible exact H|(rw [hy231];exact H)|exact H
           have Ny231:=Aside0.mk hy231
           clear hy231
           by_cases c46:(wrap64 ((y231.length:Int)+(y210.length:Int))) > 40
           ·rw [if_pos c46] at H
            have c46b0:decide (40<(wrap64 ((y231.length:Int)+(y210.length:Int))))=true:=decide_eq_true c46
            clear c46
            obtain ⟨y234,hy234⟩:∃ y_:List (S46),y_=(([]:List (S46))):=⟨_,rfl⟩
            replace H:(some (y234,false))=some (r1,r2):=by first|(rw [hy234];with_reducible exact H)|(have H2_:=(Option.bind_some _ _).symm.trans H;rw [hy234];with_reducible exact H2_)|(have H2_:=(Option.bind_some _ _).symm.trans H;with_reducible exact H2_)|with_reducible exact H|(rw [hy234];exact H)|exact H
            have Ny234:=Aside0.mk hy234
            clear hy234
            simp only [Option.some.injEq,Prod.mk.injEq] at H
            obtain ⟨rfl,rfl⟩:=H
            obtain ⟨Ao47,co47,eo47⟩:=Kd.V_slice HO_9.out
            subst eo47
            have hcz48_0:wc.cell? ⟨gb209,0,none⟩=some (.int .i64 ((rd_T46 x7_1 0).f0)):=(blk_cell BK209.out 0).trans rfl
            have hcz48_1:wc.cell? ⟨gb209,1,none⟩=some (.int .i64 ((rd_T46 x7_1 0).f1)):=(blk_cell BK209.out 1).trans rfl
            have hcz48_2:wc.cell? ⟨gb209,2,none⟩=some (.string ((rd_T46 x7_1 0).f2)):=(blk_cell BK209.out 2).trans rfl
            have hfz48_0:=blk_frozen BK209.out 0
            have hfz48_1:=blk_frozen BK209.out 1
            have hfz48_2:=blk_frozen BK209.out 2
            go_wp2_with (first|((with_reducible refine gate_builtin (b:=.append) (xs:=#[.tmp 38,.tmp 40]) rfl ?_);at_builtin;refine Kd.R_append k46 (w0:=w) w.heap.size rfl (.tmp 38) (.tmp 40) 26 46 (.agg #[(.int .i64 0),(.int .i64 0),(.string ⟨#[]⟩)]) 32 rfl Tryd.underlying26 info46 rfl (by decide) (by omega) u6 x6_1 (⟨((rd_T46 x7_1 0).f0),((rd_T46 x7_1 0).f1),((rd_T46 x7_1 0).f2)⟩:S46) [.int .i64 ((rd_T46 x7_1 0).f0),.int .i64 ((rd_T46 x7_1 0).f1),.string ((rd_T46 x7_1 0).f2)] (fun k_=>some k_≠(.slice A17 y210.length c17:Value).ownBlock∧k_≠gb209) (fun _=>False) rfl rfl ?aP (fun _ hk=>hk.elim) ?aF ?aO ?aB ?aS ?aL ?_;(case aP=>exact k46_mkM _ _ _ (⟨((rd_T46 x7_1 0).f0),((rd_T46 x7_1 0).f1),((rd_T46 x7_1 0).f2)⟩:S46));(case aB=>exact qz5);(case aF=>exact (fun k_ hk=>⟨Kd.fresh' (Kd.Q_lt qz10) k_ hk,Kd.freshB (g:=gb209) (o:=.cells #[.int .i64 ((rd_T46 x7_1 0).f0),.int .i64 ((rd_T46 x7_1 0).f1),.string ((rd_T46 x7_1 0).f2)] 46 (0,0)) qz7 k_ hk⟩));(case aO=>exact qz9);(case aS=>exact (below_size qz5));(case aL=>have:=LMc45.out;omega);intro v232 w49 ho hb hg hat;rw [← Ny231.out] at ho;have n0_:=Aside0.mk (Kd.Q_after (ok:=(fun k_=>k_≠gb209)) qz65 hg hat);have n1_:=Aside0.mk (Kd.V_afterv (ok:=(fun k_=>some k_≠(.slice A17 y210.length c17:Value).ownBlock∧k_≠gb209)) qz61 hg hat);have n2_:=Aside0.mk (blk_grown (g:=gb209) (o:=.cells #[.int .i64 ((rd_T46 x7_1 0).f0),.int .i64 ((rd_T46 x7_1 0).f1),.string ((rd_T46 x7_1 0).f2)] 46 (0,0)) qz7 hg (Kd.R_away HO_6.out (fun _ hk=>hk.2)));have n3_:=Aside0.mk (hb);have n4_:=Aside0.mk (ho);clear HO_7 HO_9 BK209 HB HO_6;have HO_7:=n0_;have HO_9:=n1_;have BK209:=n2_;have HB:=n3_;have HO233:=n4_;clear n0_ n1_ n2_ n3_ n4_ ho hb hg hat;obtain ⟨Ao50,co50,eo50⟩:=Kd.R_slice HO233.out;subst eo50)|((with_reducible refine gate_dst (N:=48) rfl ?_);refine Kd.R_lit k46 _ 46 ?hg (N:=48) ?hd (xs:=([]:List (S46))) (inner:=[]) (ok:=fun _=>True) (okp:=fun _=>True) ?hr ?hp (fun _ hk=>hk) trivial (Below.refl _ _) (Nat.le_refl _) (by simp) ?_;(case hd=>rfl);(case hg=>rfl);(case hr=>first|(go_simp;done)|(go_simp;rfl));(case hp=>exact (Reps.none _ _));intro v235 w51 ho52 hb hg_ hnew_;clear hg_ hnew_;(first|rw [← Ny234.out] at ho52|(simp only [Int.reduceToNat] at ho52;rw [← Ny234.out] at ho52));have n0_:=Aside0.mk (Kd.Q_elder' qz10 (Kd.R_base ho52) hb);have n1_:=Aside0.mk (Kd.V_elder' qz25 (Kd.R_base ho52) hb);have n2_:=Aside0.mk (Kd.R_elder' (by (with_reducible repeat (first|apply Kd.R_alloc|apply Kd.R_drewN|apply Kd.R_drew));exact HO233.out) (Kd.R_base ho52) hb);have n3_:=Aside0.mk (Kd.R_lower (Kd.R_newB (Kd.R_new' (Kd.R_new' ho52 (Kd.Q_lt qz10)) (Kd.R_lt (by (with_reducible repeat (first|apply Kd.R_alloc|apply Kd.R_drewN|apply Kd.R_drew));exact HO233.out))) (g:=gb209) (o:=.cells #[.int .i64 ((rd_T46 x7_1 0).f0),.int .i64 ((rd_T46 x7_1 0).f1),.string ((rd_T46 x7_1 0).f2)] 46 (0,0)) qz7) (below_size qz5));have n4_:=Aside0.mk (blk_below (g:=gb209) (o:=.cells #[.int .i64 ((rd_T46 x7_1 0).f0),.int .i64 ((rd_T46 x7_1 0).f1),.string ((rd_T46 x7_1 0).f2)] 46 (0,0)) qz7 hb);have n5_:=Aside0.mk (below_step qz5 hb);clear HO_7 HO_9 HO233 BK209 HB;have HO_7:=n0_;have HO_9:=n1_;have HO233:=n2_;have HO236:=n3_;have BK209:=n4_;have HB:=n5_;clear n0_ n1_ n2_ n3_ n4_ n5_ hb ho52))
            go_ret2
            exact ⟨_,qz4,by (with_reducible repeat (first|apply Kd.R_alloc|apply Kd.R_drewN|apply Kd.R_drew));exact Kd.R_mono HO236.out (fun _ hk=>trivial),qz5⟩
           ·rw [if_neg c46] at H
            have c46b0:decide (40<(wrap64 ((y231.length:Int)+(y210.length:Int))))=false:=decide_eq_false c46
            clear c46
            have H':=Aside0.mk H
            clear H
            obtain ⟨Ao53,co53,eo53⟩:=Kd.V_slice HO_9.out
            subst eo53
            have hcz54_0:wc.cell? ⟨gb209,0,none⟩=some (.int .i64 ((rd_T46 x7_1 0).f0)):=(blk_cell BK209.out 0).trans rfl
            have hcz54_1:wc.cell? ⟨gb209,1,none⟩=some (.int .i64 ((rd_T46 x7_1 0).f1)):=(blk_cell BK209.out 1).trans rfl
            have hcz54_2:wc.cell? ⟨gb209,2,none⟩=some (.string ((rd_T46 x7_1 0).f2)):=(blk_cell BK209.out 2).trans rfl
            have hfz54_0:=blk_frozen BK209.out 0
            have hfz54_1:=blk_frozen BK209.out 1
            have hfz54_2:=blk_frozen BK209.out 2
            go_wp2_with (first|((with_reducible refine gate_builtin (b:=.append) (xs:=#[.tmp 38,.tmp 40]) rfl ?_);at_builtin;refine Kd.R_append k46 (w0:=w) w.heap.size rfl (.tmp 38) (.tmp 40) 26 46 (.agg #[(.int .i64 0),(.int .i64 0),(.string ⟨#[]⟩)]) 32 rfl Tryd.underlying26 info46 rfl (by decide) (by omega) u6 x6_1 (⟨((rd_T46 x7_1 0).f0),((rd_T46 x7_1 0).f1),((rd_T46 x7_1 0).f2)⟩:S46) [.int .i64 ((rd_T46 x7_1 0).f0),.int .i64 ((rd_T46 x7_1 0).f1),.string ((rd_T46 x7_1 0).f2)] (fun k_=>some k_≠(.slice A17 y210.length c17:Value).ownBlock∧k_≠gb209) (fun _=>False) rfl rfl ?aP (fun _ hk=>hk.elim) ?aF ?aO ?aB ?aS ?aL ?_;(case aP=>exact k46_mkM _ _ _ (⟨((rd_T46 x7_1 0).f0),((rd_T46 x7_1 0).f1),((rd_T46 x7_1 0).f2)⟩:S46));(case aB=>exact qz5);(case aF=>exact (fun k_ hk=>⟨Kd.fresh' (Kd.Q_lt qz10) k_ hk,Kd.freshB (g:=gb209) (o:=.cells #[.int .i64 ((rd_T46 x7_1 0).f0),.int .i64 ((rd_T46 x7_1 0).f1),.string ((rd_T46 x7_1 0).f2)] 46 (0,0)) qz7 k_ hk⟩));(case aO=>exact qz9);(case aS=>exact (below_size qz5));(case aL=>have:=LMc45.out;omega);intro v232 w55 ho hb hg hat;rw [← Ny231.out] at ho;have n0_:=Aside0.mk (Kd.Q_after (ok:=(fun k_=>k_≠gb209)) qz65 hg hat);have n1_:=Aside0.mk (Kd.V_afterv (ok:=(fun k_=>some k_≠(.slice A17 y210.length c17:Value).ownBlock∧k_≠gb209)) qz61 hg hat);have n2_:=Aside0.mk (blk_grown (g:=gb209) (o:=.cells #[.int .i64 ((rd_T46 x7_1 0).f0),.int .i64 ((rd_T46 x7_1 0).f1),.string ((rd_T46 x7_1 0).f2)] 46 (0,0)) qz7 hg (Kd.R_away HO_6.out (fun _ hk=>hk.2)));have n3_:=Aside0.mk (hb);have n4_:=Aside0.mk (ho);clear HO_7 HO_9 BK209 HB HO_6;have HO_7:=n0_;have HO_9:=n1_;have BK209:=n2_;have HB:=n3_;have HO233:=n4_;clear n0_ n1_ n2_ n3_ n4_ ho hb hg hat;obtain ⟨Ao56,co56,eo56⟩:=Kd.R_slice HO233.out;subst eo56))
            go_roundg kj11
            case measure=>have:=HK1.out;have:=HJ11.out;omega
            case rel=>exact ⟨(y231),(y210),H',⟨by have:=HK1.out;have:=HJ11.out;omega⟩,⟨by (with_reducible repeat (first|apply Kd.R_alloc|apply Kd.R_drewN|apply Kd.R_drew));exact Kd.R_mono HO233.out (fun _ hk=>hk.1)⟩,⟨by (with_reducible repeat (first|apply Kd.Q_alloc|apply Kd.Q_drewN|apply Kd.Q_drew));exact Kd.Q_mono HO_7.out (fun _ hk=>hk.2)⟩,⟨qz5⟩⟩
          ·rw [if_neg c45] at H
           exact absurd H (by simp)
      ·rw [if_neg c11] at H
       exact absurd H (by simp)
     ·rw [if_neg c10] at H
      exact absurd H (by simp)
    ·rw [if_neg c9] at H
     have c9b0:decide (0<(x7_1.length:Int))=false:=decide_eq_false c9
     have c9b1:decide (0<x7_1.length)=false:=decide_eq_false (by omega)
     clear c9
     simp only [Option.some.injEq,Prod.mk.injEq] at H
     obtain ⟨rfl,rfl⟩:=H
     obtain ⟨Ao57,co57,eo57,_⟩:=Kd.Q_slice HO_7.out
     subst eo57
     go_wp2
     go_ret2
     exact ⟨_,qz4,by (with_reducible repeat (first|apply Kd.R_alloc|apply Kd.R_drewN|apply Kd.R_drew));exact Kd.R_mono HO_6.out (fun _ hk=>trivial),qz2⟩
 ·rw [if_neg c3] at H
  exact absurd H (by simp)

/-! ### spec_SubFull: function 34 -/
def spec_SubFull.f (k:Nat) (l0:List (S30)) (l1:List (S46)):Option ((List (S46)) × Bool):=(spec_SubOk.f k l0).bind fun t237=>(if t237=true then ((spec_TrmOk.f k l1).bind fun t238=>(if t238=true then ((spec_l2Full.f k l0 l1).bind fun bt239=>(some (bt239.1,bt239.2))) else (some ((([]:List (S46))),false)))) else (some ((([]:List (S46))),false)))
set_option maxHeartbeats 8000000 in
set_option maxRecDepth 100000 in
theorem spec_SubFull.calls (k:Nat) (A0:Option Addr) (c0:Nat) (l0:List (S30)) (A1:Option Addr) (c1:Nat) (l1:List (S46)) (r1:List (S46)) (r2:Bool) (w:World) (hr0:Kd.C k30 w A0 l0.length l0) (hc0:l0.length≤c0) (hr1:Kd.C k46 w A1 l1.length l1) (hc1:l1.length≤c1) (h:spec_SubFull.f k l0 l1=some (r1,r2)) :
  Calls Tryd.prog 34 #[.slice A0 l0.length c0,.slice A1 l1.length c1] w fun e w'=>∃ v0_:Value,e = .returned (.tuple #[v0_,.bool r2])∧Kd.R k46 46 w' w.heap.size (fun _=>True) v0_ r1∧Below w.heap.size w w':=by
 have HR0:=Aside0.mk hr0
 have HC0:=Aside0.mk hc0
 clear hr0 hc0
 have HR1:=Aside0.mk hr1
 have HC1:=Aside0.mk hc1
 clear hr1 hc1
 have HB:=Aside0.mk (Below.refl w.heap.size w)
 have H:((spec_SubOk.f k l0).bind fun t237=>(if t237=true then ((spec_TrmOk.f k l1).bind fun t238=>(if t238=true then ((spec_l2Full.f k l0 l1).bind fun bt239=>(some (bt239.1,bt239.2))) else (some ((([]:List (S46))),false)))) else (some ((([]:List (S46))),false))))=some (r1,r2):=h
 clear h
 replace H:=Option.bind_eq_some_iff.mp H
 obtain ⟨t237,A30,H⟩:=H
 replace H:(if t237=true then ((spec_TrmOk.f k l1).bind fun t238=>(if t238=true then ((spec_l2Full.f k l0 l1).bind fun bt239=>(some (bt239.1,bt239.2))) else (some ((([]:List (S46))),false)))) else (some ((([]:List (S46))),false)))=some (r1,r2):=H
 have A3:=Aside0.mk A30
 clear A30
 by_cases c4:t237=true
 ·subst c4
  have H1:((spec_TrmOk.f k l1).bind fun t238=>(if t238=true then ((spec_l2Full.f k l0 l1).bind fun bt239=>(some (bt239.1,bt239.2))) else (some ((([]:List (S46))),false))))=some (r1,r2):=qz29
  clear H
  have H:=H1
  clear H1
  replace H:=Option.bind_eq_some_iff.mp H
  obtain ⟨t238,A50,H⟩:=H
  replace H:(if t238=true then ((spec_l2Full.f k l0 l1).bind fun bt239=>(some (bt239.1,bt239.2))) else (some ((([]:List (S46))),false)))=some (r1,r2):=H
  have A5:=Aside0.mk A50
  clear A50
  by_cases c6:t238=true
  ·subst c6
   have H1:((spec_l2Full.f k l0 l1).bind fun bt239=>(some (bt239.1,bt239.2)))=some (r1,r2):=qz29
   clear H
   have H:=H1
   clear H1
   replace H:=Option.bind_eq_some_iff.mp H
   obtain ⟨⟨t239,t240⟩,A70,H⟩:=H
   replace H:(some (t239,t240))=some (r1,r2):=H
   have A7:=Aside0.mk A70
   clear A70
   simp only [Option.some.injEq,Prod.mk.injEq] at H
   obtain ⟨rfl,rfl⟩:=H
   go_enter Tryd.func34,Tryd.ntmps34
   go_wp2_with (first|((with_reducible refine gate_callee (f:=24) rfl ?_);refine goesL_ (some 7) rfl rfl Tryd.func24 (by kernel_rfl) rfl #[.slice A0 l0.length c0] rfl qz8 ?_;(with_reducible refine (spec_SubOk.calls k _ _ l0 true _ ?side1 ?side2 A3.out).mono ?_);(case side1=>exact qz21);(case side2=>exact HC0.out);rintro e w8 ⟨rfl,hb⟩;refine ⟨_,rfl,?_⟩;have n0_:=Aside0.mk (below_step qz1 hb);clear HB;have HB:=n0_;clear n0_;(try clear hb);(try clear hb2);(try clear hk);(try clear hi))|(go_at_call 30;(with_reducible refine (spec_TrmOk.calls k _ _ l1 true _ ?side1 ?side2 A5.out).mono ?_);(case side1=>exact qz19);(case side2=>exact HC1.out);rintro e w9 ⟨rfl,hb⟩;have n0_:=Aside0.mk (below_step qz1 hb);clear HB;have HB:=n0_;clear n0_;(try clear hb);(try clear hb2);(try clear hk);(try clear hi))|((with_reducible refine gate_callee (f:=73) rfl ?_);refine goesL_ (some 17) rfl rfl Tryd.func73 (by kernel_rfl) rfl #[.slice A0 l0.length c0,.slice A1 l1.length c1] rfl qz8 ?_;(with_reducible refine (spec_l2Full.calls k _ _ l0 _ _ l1 t239 t240 _ ?side1 ?side2 ?side3 ?side4 A7.out).mono ?_);(case side1=>exact qz34);(case side2=>exact HC0.out);(case side3=>exact qz19);(case side4=>exact HC1.out);rintro e w10 ⟨v241,rfl,ho0,hb⟩;refine ⟨_,rfl,?_⟩;have n0_:=Aside0.mk (Kd.R_lower ho0 (below_size qz1));have n1_:=Aside0.mk (below_step qz1 hb);clear HB;have HO242:=n0_;have HB:=n1_;clear n0_ n1_;(try clear hb);(try clear hb2);(try clear hk);(try clear hi);(try clear ho0)))
   go_ret2
   exact ⟨_,qz4,by (with_reducible repeat (first|apply Kd.R_alloc|apply Kd.R_drewN|apply Kd.R_drew));exact HO242.out,qz2⟩
  ·replace c6:=Bool.eq_false_iff.mpr c6
   subst c6
   have H1:(some ((([]:List (S46))),false))=some (r1,r2):=qz13
   clear H
   have H:=H1
   clear H1
   obtain ⟨y243,hy243⟩:∃ y_:List (S46),y_=(([]:List (S46))):=⟨_,rfl⟩
   replace H:(some (y243,false))=some (r1,r2):=by first|(rw [hy243];with_reducible exact H)|(have H2_:=(Option.bind_some _ _).symm.trans H;rw [hy243];with_reducible exact H2_)|(have H2_:=(Option.bind_some _ _).symm.trans H;with_reducible exact H2_)|with_reducible exact H|(rw [hy243];exact H)|exact H
   have Ny243:=Aside0.mk hy243
   clear hy243
   simp only [Option.some.injEq,Prod.mk.injEq] at H
   obtain ⟨rfl,rfl⟩:=H
   go_enter Tryd.func34,Tryd.ntmps34
   go_wp2_with (first|((with_reducible refine gate_callee (f:=24) rfl ?_);refine goesL_ (some 7) rfl rfl Tryd.func24 (by kernel_rfl) rfl #[.slice A0 l0.length c0] rfl qz8 ?_;(with_reducible refine (spec_SubOk.calls k _ _ l0 true _ ?side1 ?side2 A3.out).mono ?_);(case side1=>exact qz21);(case side2=>exact HC0.out);rintro e w11 ⟨rfl,hb⟩;refine ⟨_,rfl,?_⟩;have n0_:=Aside0.mk (below_step qz1 hb);clear HB;have HB:=n0_;clear n0_;(try clear hb);(try clear hb2);(try clear hk);(try clear hi))|(go_at_call 30;(with_reducible refine (spec_TrmOk.calls k _ _ l1 false _ ?side1 ?side2 A5.out).mono ?_);(case side1=>exact qz19);(case side2=>exact HC1.out);rintro e w12 ⟨rfl,hb⟩;have n0_:=Aside0.mk (below_step qz1 hb);clear HB;have HB:=n0_;clear n0_;(try clear hb);(try clear hb2);(try clear hk);(try clear hi))|((with_reducible refine gate_dst (N:=14) rfl ?_);refine Kd.R_lit k46 _ 46 ?hg (N:=14) ?hd (xs:=([]:List (S46))) (inner:=[]) (ok:=fun _=>True) (okp:=fun _=>True) ?hr ?hp (fun _ hk=>hk) trivial (Below.refl _ _) (Nat.le_refl _) (by simp) ?_;(case hd=>rfl);(case hg=>rfl);(case hr=>first|(go_simp;done)|(go_simp;rfl));(case hp=>exact (Reps.none _ _));intro v244 w13 ho14 hb hg_ hnew_;clear hg_ hnew_;(first|rw [← Ny243.out] at ho14|(simp only [Int.reduceToNat] at ho14;rw [← Ny243.out] at ho14));have n0_:=Aside0.mk (Kd.R_lower ho14 (below_size qz1));have n1_:=Aside0.mk (below_step qz1 hb);clear HB;have HO245:=n0_;have HB:=n1_;clear n0_ n1_ hb ho14))
   go_ret2
   exact ⟨_,qz4,by (with_reducible repeat (first|apply Kd.R_alloc|apply Kd.R_drewN|apply Kd.R_drew));exact HO245.out,qz2⟩
 ·replace c4:=Bool.eq_false_iff.mpr c4
  subst c4
  have H1:(some ((([]:List (S46))),false))=some (r1,r2):=qz13
  clear H
  have H:=H1
  clear H1
  obtain ⟨y246,hy246⟩:∃ y_:List (S46),y_=(([]:List (S46))):=⟨_,rfl⟩
  replace H:(some (y246,false))=some (r1,r2):=by first|(rw [hy246];with_reducible exact H)|(have H2_:=(Option.bind_some _ _).symm.trans H;rw [hy246];with_reducible exact H2_)|(have H2_:=(Option.bind_some _ _).symm.trans H;with_reducible exact H2_)|with_reducible exact H|(rw [hy246];exact H)|exact H
  have Ny246:=Aside0.mk hy246
  clear hy246
  simp only [Option.some.injEq,Prod.mk.injEq] at H
  obtain ⟨rfl,rfl⟩:=H
  go_enter Tryd.func34,Tryd.ntmps34
  go_wp2_with (first|((with_reducible refine gate_callee (f:=24) rfl ?_);refine goesL_ (some 7) rfl rfl Tryd.func24 (by kernel_rfl) rfl #[.slice A0 l0.length c0] rfl qz8 ?_;(with_reducible refine (spec_SubOk.calls k _ _ l0 false _ ?side1 ?side2 A3.out).mono ?_);(case side1=>exact qz21);(case side2=>exact HC0.out);rintro e w15 ⟨rfl,hb⟩;refine ⟨_,rfl,?_⟩;have n0_:=Aside0.mk (below_step qz1 hb);clear HB;have HB:=n0_;clear n0_;(try clear hb);(try clear hb2);(try clear hk);(try clear hi))|((with_reducible refine gate_dst (N:=14) rfl ?_);refine Kd.R_lit k46 _ 46 ?hg (N:=14) ?hd (xs:=([]:List (S46))) (inner:=[]) (ok:=fun _=>True) (okp:=fun _=>True) ?hr ?hp (fun _ hk=>hk) trivial (Below.refl _ _) (Nat.le_refl _) (by simp) ?_;(case hd=>rfl);(case hg=>rfl);(case hr=>first|(go_simp;done)|(go_simp;rfl));(case hp=>exact (Reps.none _ _));intro v247 w16 ho17 hb hg_ hnew_;clear hg_ hnew_;(first|rw [← Ny246.out] at ho17|(simp only [Int.reduceToNat] at ho17;rw [← Ny246.out] at ho17));have n0_:=Aside0.mk (Kd.R_lower ho17 (below_size qz1));have n1_:=Aside0.mk (below_step qz1 hb);clear HB;have HO248:=n0_;have HB:=n1_;clear n0_ n1_ hb ho17))
  go_ret2
  exact ⟨_,qz4,by (with_reducible repeat (first|apply Kd.R_alloc|apply Kd.R_drewN|apply Kd.R_drew));exact HO248.out,qz2⟩

/-! ### slices_Index_int: function 83 -/
def slices_Index_int.l0:Nat→List Int→Int→Int→Int→Option (Int)
 | 0,_,_,_,_=>none
 | k+1,x0,x1,x7,x8=>if x8<x7 then (if 0≤x8 then (if x8<(x0.length:Int) then (if x1=(rd x0 x8) then (some x8) else (slices_Index_int.l0 k x0 x1 x7 (wrap64 (x8+1)))) else (none)) else (none)) else (some (-1))
def slices_Index_int.f (k:Nat) (l0:List Int) (a1:Int):Option (Int):=slices_Index_int.l0 k l0 a1 (l0.length:Int) 0
set_option maxHeartbeats 8000000 in
set_option maxRecDepth 100000 in
theorem slices_Index_int.calls (k:Nat) (A0:Option Addr) (c0:Nat) (l0:List Int) (a1:Int) (r:Int) (w:World) (hr0:Kd.C (Kd.int .i64) w A0 l0.length l0) (hc0:l0.length≤c0) (h:slices_Index_int.f k l0 a1=some r) :
  Calls Tryd.prog 83 #[.slice A0 l0.length c0,.int .i64 a1] w fun e w'=>e = .returned (.int .i64 r)∧Drawn0 w w':=by
 have HR0:=Aside0.mk hr0
 have HC0:=Aside0.mk hc0
 clear hr0 hc0
 have H:(slices_Index_int.l0 k l0 a1 (l0.length:Int) 0)=some r:=h
 clear h
 have H':=Aside0.mk H
 clear H
 go_enter Tryd.func83,Tryd.ntmps83
 go_wp2
 go_loopg [8] k (fun kq v8 w'=>∃ (x8_1:Int),v8 = .int .i64 x8_1∧Aside0 (slices_Index_int.l0 kq l0 a1 (l0.length:Int) x8_1=some r)∧Aside0 (kq≤k)∧Drawn0 w w')
 case atStart=>exact ⟨(0),qz6,H',⟨Nat.le_refl _⟩,qz12⟩
 case round=>
  clear H'
  try clear p2
  obtain ⟨x8_1,rfl,HA,HK1,⟨m1,rfl⟩⟩:=hrel
  cases gk with
  | zero=>exact absurd HA.out (by simp [slices_Index_int.l0])
  | succ k1=>
   have H:=HA.out
   clear HA
   simp only [slices_Index_int.l0] at H
   by_cases c3:x8_1<(l0.length:Int)
   ·rw [if_pos c3] at H
    have c3b0:decide (x8_1<(l0.length:Int))=true:=decide_eq_true c3
    clear c3
    by_cases c4:0≤x8_1
    ·rw [if_pos c4] at H
     have c4b0:decide (0≤x8_1)=true:=decide_eq_true c4
     clear c4
     by_cases c5:x8_1<(l0.length:Int)
     ·rw [if_pos c5] at H
      have c5b0:decide (x8_1<(l0.length:Int))=true:=decide_eq_true c5
      clear c5
      by_cases c6:a1=(rd l0 x8_1)
      ·rw [if_pos c6] at H
       have c6b0:(a1 == (rd l0 x8_1))=true:=beq_iff_eq.mpr c6
       have c6b1:(a1 != (rd l0 x8_1))=false:=bne_eq_false_iff_eq.mpr c6
       clear c6
       obtain rfl:=Option.some.inj H
       have p249:0≤(x8_1:Int):=of_decide_eq_true qz3
       have q249:x8_1<(l0.length:Int):=of_decide_eq_true qz3
       obtain ⟨ad249,e249,hx249_0⟩:=Kd.at_int HR0.out x8_1 p249 q249
       cases e249
       replace p249:=eq_true p249
       replace q249:=eq_true q249
       go_wp2
       go_ret
       exact ⟨qz6,qz12⟩
      ·rw [if_neg c6] at H
       have c6b0:(a1 == (rd l0 x8_1))=false:=beq_eq_false_iff_ne.mpr c6
       have c6b1:(a1 != (rd l0 x8_1))=true:=bne_iff_ne.mpr c6
       have H':=Aside0.mk H
       clear H
       have p249:0≤(x8_1:Int):=of_decide_eq_true qz3
       have q249:x8_1<(l0.length:Int):=of_decide_eq_true qz3
       obtain ⟨ad249,e249,hx249_0⟩:=Kd.at_int HR0.out x8_1 p249 q249
       cases e249
       replace p249:=eq_true p249
       replace q249:=eq_true q249
       go_wp2
       go_roundg k1
       case measure=>have:=HK1.out;omega
       case rel=>exact ⟨(wrap64 (x8_1+1)),qz6,H',⟨by have:=HK1.out;omega⟩,qz12⟩
     ·rw [if_neg c5] at H
      exact absurd H (by simp)
    ·rw [if_neg c4] at H
     exact absurd H (by simp)
   ·rw [if_neg c3] at H
    have c3b0:decide (x8_1<(l0.length:Int))=false:=decide_eq_false c3
    clear c3
    obtain rfl:=Option.some.inj H
    go_wp2
    go_ret
    exact ⟨qz6,qz12⟩

/-! ### slices_Contains_int: function 71 -/
def slices_Contains_int.f (k:Nat) (l0:List Int) (a1:Int):Option (Bool):=(slices_Index_int.f k l0 a1).bind fun t250=>(some (decide (t250≥0)))
set_option maxHeartbeats 8000000 in
set_option maxRecDepth 100000 in
theorem slices_Contains_int.calls (k:Nat) (A0:Option Addr) (c0:Nat) (l0:List Int) (a1:Int) (r:Bool) (w:World) (hr0:Kd.C (Kd.int .i64) w A0 l0.length l0) (hc0:l0.length≤c0) (h:slices_Contains_int.f k l0 a1=some r) :
  Calls Tryd.prog 71 #[.slice A0 l0.length c0,.int .i64 a1] w fun e w'=>e = .returned (.bool r)∧Drawn0 w w':=by
 have HR0:=Aside0.mk hr0
 have HC0:=Aside0.mk hc0
 clear hr0 hc0
 have H:((slices_Index_int.f k l0 a1).bind fun t250=>(some (decide (t250≥0))))=some r:=h
 clear h
 replace H:=Option.bind_eq_some_iff.mp H
 obtain ⟨t250,A30,H⟩:=H
 replace H:(some (decide (t250≥0)))=some r:=H
 have A3:=Aside0.mk A30
 clear A30
 obtain rfl:=Option.some.inj H
 go_enter Tryd.func71,Tryd.ntmps71
 go_wp2_with (first|((with_reducible refine gate_callee (f:=83) rfl ?_);refine goesL_ (some 7) rfl rfl Tryd.func83 (by kernel_rfl) rfl #[.slice A0 l0.length c0,.int .i64 a1] rfl qz8 ?_;(with_reducible refine (slices_Index_int.calls k _ _ l0 a1 t250 _ ?side1 ?side2 A3.out).mono ?_);(case side1=>exact qz21);(case side2=>exact HC0.out);rintro e w' ⟨rfl,⟨nd,rfl⟩⟩;refine ⟨_,rfl,?_⟩))
 go_ret
 exact ⟨qz6,qz12⟩

/-! ### impl_TrmFree: function 32 -/
def impl_TrmFree.l0:Nat→List Int→List (S46)→Int→Int→Option (List Int)
 | 0,_,_,_,_=>none
 | k+1,x3,x6,x7,x8=>if x8<x7 then (if 0≤x8 then (if x8<(x6.length:Int) then (if ((rd_T46 x6 x8).f0)=1 then ((slices_Contains_int.f k x3 ((rd_T46 x6 x8).f1)).bind fun t253=>(if t253=true then (impl_TrmFree.l0 k x3 x6 x7 (wrap64 (x8+1))) else (if x3.length<17592186044416 then (impl_TrmFree.l0 k (x3++[(rd_T46 x6 x8).f1]) x6 x7 (wrap64 (x8+1))) else (none)))) else (impl_TrmFree.l0 k x3 x6 x7 (wrap64 (x8+1)))) else (none)) else (none)) else (some x3)
def impl_TrmFree.f (k:Nat) (l0:List (S46)):Option (List Int):=impl_TrmFree.l0 k ([]:List Int) l0 (l0.length:Int) 0
set_option maxHeartbeats 8000000 in
set_option maxRecDepth 100000 in
theorem impl_TrmFree.calls (k:Nat) (A0:Option Addr) (c0:Nat) (l0:List (S46)) (r:List Int) (w:World) (hr0:Kd.C k46 w A0 l0.length l0) (hc0:l0.length≤c0) (h:impl_TrmFree.f k l0=some r) :
  Calls Tryd.prog 32 #[.slice A0 l0.length c0] w fun e w'=>∃ v0_:Value,e = .returned (v0_)∧Kd.R (Kd.int .i64) 3 w' w.heap.size (fun _=>True) v0_ r∧Below w.heap.size w w':=by
 have hu46:=Tryd.underlying46
 have HR0:=Aside0.mk hr0
 have HC0:=Aside0.mk hc0
 clear hr0 hc0
 have HB:=Aside0.mk (Below.refl w.heap.size w)
 have H:(impl_TrmFree.l0 k ([]:List Int) l0 (l0.length:Int) 0)=some r:=h
 clear h
 have H':=Aside0.mk H
 clear H
 go_enter Tryd.func32,Tryd.ntmps32
 go_wp2
 go_loopg [3,8] k (fun kq v3 v8 w'=>∃ (x3_1:List Int) (x8_1:Int),v8 = .int .i64 x8_1∧Aside0 (impl_TrmFree.l0 kq x3_1 l0 (l0.length:Int) x8_1=some r)∧Aside0 (kq≤k)∧Aside0 (Kd.R (Kd.int .i64) 3 w' w.heap.size (fun _=>True) v3 x3_1)∧Aside0 (Below w.heap.size w w'))
 case atStart=>exact ⟨(([]:List Int)),(0),qz6,H',⟨Nat.le_refl _⟩,⟨qz45⟩,⟨qz2⟩⟩
 case round=>
  clear H'
  obtain ⟨x3_1,x8_1,rfl,HA,HK1,HO_3,HB⟩:=hrel
  cases gk with
  | zero=>exact absurd HA.out (by simp [impl_TrmFree.l0])
  | succ k1=>
   have H:=HA.out
   clear HA
   simp only [impl_TrmFree.l0] at H
   by_cases c2:x8_1<(l0.length:Int)
   ·rw [if_pos c2] at H
    have c2b0:decide (x8_1<(l0.length:Int))=true:=decide_eq_true c2
    clear c2
    by_cases c3:0≤x8_1
    ·rw [if_pos c3] at H
     have c3b0:decide (0≤x8_1)=true:=decide_eq_true c3
     clear c3
     by_cases c4:x8_1<(l0.length:Int)
     ·rw [if_pos c4] at H
      have c4b0:decide (x8_1<(l0.length:Int))=true:=decide_eq_true c4
      clear c4
      by_cases c5:((rd_T46 l0 x8_1).f0)=1
      ·rw [if_pos c5] at H
       have c5b0:(((rd_T46 l0 x8_1).f0) == 1)=true:=beq_iff_eq.mpr c5
       have c5b1:(((rd_T46 l0 x8_1).f0) != 1)=false:=bne_eq_false_iff_eq.mpr c5
       clear c5
       replace H:=Option.bind_eq_some_iff.mp H
       obtain ⟨t253,A60,H⟩:=H
       replace H:(if t253=true then (impl_TrmFree.l0 k1 x3_1 l0 (l0.length:Int) (wrap64 (x8_1+1))) else (if x3_1.length<17592186044416 then (impl_TrmFree.l0 k1 (x3_1++[(rd_T46 l0 x8_1).f1]) l0 (l0.length:Int) (wrap64 (x8_1+1))) else (none)))=some r:=H
       have A6:=Aside0.mk A60
       clear A60
       by_cases c7:t253=true
       ·subst c7
        have H1:(impl_TrmFree.l0 k1 x3_1 l0 (l0.length:Int) (wrap64 (x8_1+1)))=some r:=qz29
        clear H
        have H:=H1
        clear H1
        have H':=Aside0.mk H
        clear H
        have p251:0≤(x8_1:Int):=of_decide_eq_true qz3
        have q251:x8_1<(l0.length:Int):=of_decide_eq_true qz3
        obtain ⟨ad251,e251,hx251_0,hx251_1,hx251_2⟩:=at_T46 HR0.out x8_1 p251 q251
        cases e251
        replace hx251_0:=(HB.out.cell (World.block_lt_of_cell? w _ hx251_0)).trans hx251_0
        replace hx251_1:=(HB.out.cell (World.block_lt_of_cell? w _ hx251_1)).trans hx251_1
        replace hx251_2:=(HB.out.cell (World.block_lt_of_cell? w _ hx251_2)).trans hx251_2
        replace p251:=eq_true p251
        replace q251:=eq_true q251
        go_wp2_with (first|((with_reducible refine gate_dst (N:=5) rfl ?_);refine box_event ?hg (N:=5) ?hd (cs:=#[.int .i64 0,.int .i64 0,.string (⟨#[]⟩:ByteArray)]) (t:=46) ?hr ?_;(case hd=>rfl);(case hg=>rfl);(case hr=>first|(go_simp;done)|(go_simp;rfl));intro gb252 hg w8 hbox hb;have n0_:=Aside0.mk (Kd.R_below qz18 hb);have n1_:=Aside0.mk (below_step qz1 hb);have n2_:=Aside0.mk (hbox);have n3_:=Aside0.mk ((by rw [hg];exact (below_size qz1):w.heap.size≤gb252));have n4_:=Aside0.mk ((by rw [hg];exact (below_size qz1):w.heap.size≤gb252));clear HO_3 HB;have HO_3:=n0_;have HB:=n1_;have BK252:=n2_;have GW252:=n3_;have GE252:=n4_;clear n0_ n1_ n2_ n3_ n4_ hb hbox hg;have hcz9_0:w8.cell? ⟨gb252,0,none⟩=some (.int .i64 0):=(blk_cell BK252.out 0).trans rfl;have hcz9_1:w8.cell? ⟨gb252,1,none⟩=some (.int .i64 0):=(blk_cell BK252.out 1).trans rfl;have hcz9_2:w8.cell? ⟨gb252,2,none⟩=some (.string (⟨#[]⟩:ByteArray)):=(blk_cell BK252.out 2).trans rfl;have hfz9_0:=blk_frozen BK252.out 0;have hfz9_1:=blk_frozen BK252.out 1;have hfz9_2:=blk_frozen BK252.out 2;obtain ⟨Ao10,co10,eo10⟩:=Kd.R_slice HO_3.out;subst eo10)|(go_at_call 71;(with_reducible refine (slices_Contains_int.calls k1 _ _ x3_1 ((rd_T46 l0 x8_1).f1) true _ ?side1 ?side2 A6.out).mono ?_);(case side1=>refine (Kd.R_reads' (e:=3) (base:=w.heap.size) (ok:=fun k_=>True) (n:=x3_1.length) (c:=co10) ?_).2.2;exact qz37);(case side2=>exact (Kd.R_reads' HO_3.out).2.1);rintro e w' ⟨rfl,⟨nd,rfl⟩⟩))
        go_roundg k1
        case measure=>have:=HK1.out;omega
        case rel=>exact ⟨(x3_1),(wrap64 (x8_1+1)),qz6,H',⟨by have:=HK1.out;omega⟩,⟨qz22⟩,⟨qz27⟩⟩
       ·replace c7:=Bool.eq_false_iff.mpr c7
        subst c7
        have H1:(if x3_1.length<17592186044416 then (impl_TrmFree.l0 k1 (x3_1++[(rd_T46 l0 x8_1).f1]) l0 (l0.length:Int) (wrap64 (x8_1+1))) else (none))=some r:=qz13
        clear H
        have H:=H1
        clear H1
        by_cases c11:x3_1.length<17592186044416
        ·rw [if_pos c11] at H
         have LMc11:=Aside0.mk c11
         clear c11
         obtain ⟨y254,hy254⟩:∃ y_:List Int,y_=(x3_1++[(rd_T46 l0 x8_1).f1]):=⟨_,rfl⟩
         replace H:(impl_TrmFree.l0 k1 y254 l0 (l0.length:Int) (wrap64 (x8_1+1)))=some r:=by first|(rw [hy254];with_reducible exact H)|(have H2_:=(Option.bind_some _ _).symm.trans H;rw [hy254];with_reducible exact H2_)|(have H2_:=(Option.bind_some _ _).symm.trans H;with_reducible exact H2_)|with_reducible exact H|(rw [hy254];exact H)|exact H
         have Ny254:=Aside0.mk hy254
         clear hy254
         have H':=Aside0.mk H
         clear H
         have p251:0≤(x8_1:Int):=of_decide_eq_true qz3
         have q251:x8_1<(l0.length:Int):=of_decide_eq_true qz3
         obtain ⟨ad251,e251,hx251_0,hx251_1,hx251_2⟩:=at_T46 HR0.out x8_1 p251 q251
         cases e251
         replace hx251_0:=(HB.out.cell (World.block_lt_of_cell? w _ hx251_0)).trans hx251_0
         replace hx251_1:=(HB.out.cell (World.block_lt_of_cell? w _ hx251_1)).trans hx251_1
         replace hx251_2:=(HB.out.cell (World.block_lt_of_cell? w _ hx251_2)).trans hx251_2
         replace p251:=eq_true p251
         replace q251:=eq_true q251
         go_wp2_with (first|((with_reducible refine gate_dst (N:=5) rfl ?_);refine box_event ?hg (N:=5) ?hd (cs:=#[.int .i64 0,.int .i64 0,.string (⟨#[]⟩:ByteArray)]) (t:=46) ?hr ?_;(case hd=>rfl);(case hg=>rfl);(case hr=>first|(go_simp;done)|(go_simp;rfl));intro gb252 hg w12 hbox hb;have n0_:=Aside0.mk (Kd.R_below qz18 hb);have n1_:=Aside0.mk (below_step qz1 hb);have n2_:=Aside0.mk (hbox);have n3_:=Aside0.mk ((by rw [hg];exact (below_size qz1):w.heap.size≤gb252));have n4_:=Aside0.mk ((by rw [hg];exact (below_size qz1):w.heap.size≤gb252));clear HO_3 HB;have HO_3:=n0_;have HB:=n1_;have BK252:=n2_;have GW252:=n3_;have GE252:=n4_;clear n0_ n1_ n2_ n3_ n4_ hb hbox hg;have hcz13_0:w12.cell? ⟨gb252,0,none⟩=some (.int .i64 0):=(blk_cell BK252.out 0).trans rfl;have hcz13_1:w12.cell? ⟨gb252,1,none⟩=some (.int .i64 0):=(blk_cell BK252.out 1).trans rfl;have hcz13_2:w12.cell? ⟨gb252,2,none⟩=some (.string (⟨#[]⟩:ByteArray)):=(blk_cell BK252.out 2).trans rfl;have hfz13_0:=blk_frozen BK252.out 0;have hfz13_1:=blk_frozen BK252.out 1;have hfz13_2:=blk_frozen BK252.out 2;obtain ⟨Ao14,co14,eo14⟩:=Kd.R_slice HO_3.out;subst eo14)|(go_at_call 71;(with_reducible refine (slices_Contains_int.calls k1 _ _ x3_1 ((rd_T46 l0 x8_1).f1) false _ ?side1 ?side2 A6.out).mono ?_);(case side1=>refine (Kd.R_reads' (e:=3) (base:=w.heap.size) (ok:=fun k_=>True) (n:=x3_1.length) (c:=co14) ?_).2.2;exact qz37);(case side2=>exact (Kd.R_reads' HO_3.out).2.1);rintro e w' ⟨rfl,⟨nd,rfl⟩⟩)|((with_reducible refine gate_builtin (b:=.append) (xs:=#[.tmp 22,.tmp 25]) rfl ?_);at_builtin;refine Kd.R_append (Kd.int .i64) (w0:=w) w.heap.size rfl (.tmp 22) (.tmp 25) 43 3 (.int .i64 0) 8 rfl Tryd.underlying43 info3 rfl (by decide) (by omega) (.slice Ao14 x3_1.length co14) x3_1 ((rd_T46 l0 x8_1).f1) [.int .i64 ((rd_T46 l0 x8_1).f1)] (fun _=>True) (fun _=>False) rfl (by first|(go_simp;done)|(go_simp;rfl)) ?aP (fun _ hk=>hk.elim) ?aF ?aO ?aB ?aS ?aL ?_;(case aP=>exact rfl);(case aB=>exact qz27);(case aF=>exact (fun _ _=>trivial));(case aO=>exact qz22);(case aS=>exact (below_size qz27));(case aL=>have:=LMc11.out;omega);intro v255 w15 ho hb hg hat;rw [← Ny254.out] at ho;have n0_:=Aside0.mk (blk_grown (g:=gb252) (o:=.cells #[.int .i64 ((rd_T46 l0 x8_1).f0),.int .i64 ((rd_T46 l0 x8_1).f1),.string ((rd_T46 l0 x8_1).f2)] 46 (0,0)) (by (with_reducible repeat (first|refine blk_drewN ?_ _|refine blk_drew ?_|refine blk_alloc ?_ _));refine blk_put (cs:=#[.int .i64 ((rd_T46 l0 x8_1).f0),.int .i64 ((rd_T46 l0 x8_1).f1),.string (⟨#[]⟩:ByteArray)]) ?_ 2 _ rfl;(with_reducible repeat (first|refine blk_drewN ?_ _|refine blk_drew ?_|refine blk_alloc ?_ _));refine blk_put (cs:=#[.int .i64 ((rd_T46 l0 x8_1).f0),.int .i64 0,.string (⟨#[]⟩:ByteArray)]) ?_ 1 _ rfl;(with_reducible repeat (first|refine blk_drewN ?_ _|refine blk_drew ?_|refine blk_alloc ?_ _));refine blk_put (cs:=#[.int .i64 0,.int .i64 0,.string (⟨#[]⟩:ByteArray)]) ?_ 0 _ rfl;(with_reducible repeat (first|refine blk_drewN ?_ _|refine blk_drew ?_|refine blk_alloc ?_ _));exact BK252.out) hg (by first|exact Kd.R_ne HO_3.out BK252.out (by decide)|exact fun he_=>(HO_3.out.1 _ he_.symm).2 rfl));have n1_:=Aside0.mk (hb);have n2_:=Aside0.mk (ho);clear BK252 HB HO_3;have BK252:=n0_;have HB:=n1_;have HO256:=n2_;clear n0_ n1_ n2_ ho hb hg hat))
         go_roundg k1
         case measure=>have:=HK1.out;omega
         case rel=>exact ⟨(y254),(wrap64 (x8_1+1)),qz6,H',⟨by have:=HK1.out;omega⟩,⟨by (with_reducible repeat (first|apply Kd.R_alloc|apply Kd.R_drewN|apply Kd.R_drew));exact HO256.out⟩,⟨qz27⟩⟩
        ·rw [if_neg c11] at H
         exact absurd H (by simp)
      ·rw [if_neg c5] at H
       have c5b0:(((rd_T46 l0 x8_1).f0) == 1)=false:=beq_eq_false_iff_ne.mpr c5
       have c5b1:(((rd_T46 l0 x8_1).f0) != 1)=true:=bne_iff_ne.mpr c5
       have H':=Aside0.mk H
       clear H
       have p251:0≤(x8_1:Int):=of_decide_eq_true qz3
       have q251:x8_1<(l0.length:Int):=of_decide_eq_true qz3
       obtain ⟨ad251,e251,hx251_0,hx251_1,hx251_2⟩:=at_T46 HR0.out x8_1 p251 q251
       cases e251
       replace hx251_0:=(HB.out.cell (World.block_lt_of_cell? w _ hx251_0)).trans hx251_0
       replace hx251_1:=(HB.out.cell (World.block_lt_of_cell? w _ hx251_1)).trans hx251_1
       replace hx251_2:=(HB.out.cell (World.block_lt_of_cell? w _ hx251_2)).trans hx251_2
       replace p251:=eq_true p251
       replace q251:=eq_true q251
       go_wp2_with (first|((with_reducible refine gate_dst (N:=5) rfl ?_);refine box_event ?hg (N:=5) ?hd (cs:=#[.int .i64 0,.int .i64 0,.string (⟨#[]⟩:ByteArray)]) (t:=46) ?hr ?_;(case hd=>rfl);(case hg=>rfl);(case hr=>first|(go_simp;done)|(go_simp;rfl));intro gb252 hg w16 hbox hb;have n0_:=Aside0.mk (Kd.R_below qz18 hb);have n1_:=Aside0.mk (below_step qz1 hb);have n2_:=Aside0.mk (hbox);have n3_:=Aside0.mk ((by rw [hg];exact (below_size qz1):w.heap.size≤gb252));have n4_:=Aside0.mk ((by rw [hg];exact (below_size qz1):w.heap.size≤gb252));clear HO_3 HB;have HO_3:=n0_;have HB:=n1_;have BK252:=n2_;have GW252:=n3_;have GE252:=n4_;clear n0_ n1_ n2_ n3_ n4_ hb hbox hg;have hcz17_0:w16.cell? ⟨gb252,0,none⟩=some (.int .i64 0):=(blk_cell BK252.out 0).trans rfl;have hcz17_1:w16.cell? ⟨gb252,1,none⟩=some (.int .i64 0):=(blk_cell BK252.out 1).trans rfl;have hcz17_2:w16.cell? ⟨gb252,2,none⟩=some (.string (⟨#[]⟩:ByteArray)):=(blk_cell BK252.out 2).trans rfl;have hfz17_0:=blk_frozen BK252.out 0;have hfz17_1:=blk_frozen BK252.out 1;have hfz17_2:=blk_frozen BK252.out 2))
       go_roundg k1
       case measure=>have:=HK1.out;omega
       case rel=>exact ⟨(x3_1),(wrap64 (x8_1+1)),qz6,H',⟨by have:=HK1.out;omega⟩,⟨qz22⟩,⟨qz27⟩⟩
     ·rw [if_neg c4] at H
      exact absurd H (by simp)
    ·rw [if_neg c3] at H
     exact absurd H (by simp)
   ·rw [if_neg c2] at H
    have c2b0:decide (x8_1<(l0.length:Int))=false:=decide_eq_false c2
    clear c2
    obtain rfl:=Option.some.inj H
    go_wp2
    go_ret
    exact ⟨_,qz4,qz18,qz2⟩

end Go.Proofs.YtlaicnoikeieeaaDoor.P
