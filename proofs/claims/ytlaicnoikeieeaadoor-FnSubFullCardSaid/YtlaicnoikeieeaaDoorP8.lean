/- Contracts of functions of the program: each as a Lean function, and that its call does what that says; printed by cprint.py (this session) over print.py of the kit. Conditions: the hypotheses of each theorem. -/
import Derived.Test.YtlaicnoikeieeaaDoorVZ
import Derived.Test.YtlaicnoikeieeaaDoorP0
import Derived.Test.YtlaicnoikeieeaaDoorP2
import Derived.Test.YtlaicnoikeieeaaDoorP5
import Derived.Test.YtlaicnoikeieeaaDoorP7
namespace Go.Proofs.YtlaicnoikeieeaaDoor.P
open Go.RowKit Go.Proofs.YtlaicnoikeieeaaDoorW.PrintWords Go.Proofs.YtlaicnoikeieeaaDoorW.PrintLast Go.Proofs.YtlaicnoikeieeaaDoorW.PrintMore
attribute [local go_sem] max2_int min2_int max_two min_two max_three min_three max_four min_four   -- for this text's walks alone
set_option linter.unusedVariables false
set_option linter.unusedSimpArgs false

/-! ### spec_l2Full: function 73 -/
mutual
def spec_l2Full.l0:Nat→List (S30)→List (S46)→List (S46)→Option ((List (S46)) × Bool)
 | 0,_,_,_=>none
 | k+1,x0,x6,x7=>if (x7.length:Int) > 0 then (if 0<(x7.length:Int) then (if 1≤(x7.length:Int) then ((some (x7.drop (1:Int).toNat:List (S46))).bind fun y190=>(if ((rd_T46 x7 0).f0)=1 then ((spec_l2Get.f k x0 ((rd_T46 x7 0).f1)).bind fun t196=>(spec_l2Full.j1 k x0 x6 y190 t196 ((rd_T46 x7 0).f0) ((rd_T46 x7 0).f1) ((rd_T46 x7 0).f2))) else (spec_l2Full.j1 k x0 x6 y190 (([]:List (S46))) ((rd_T46 x7 0).f0) ((rd_T46 x7 0).f1) ((rd_T46 x7 0).f2)))) else (none)) else (none)) else (some (x6,true))
def spec_l2Full.j1:Nat→List (S30)→List (S46)→List (S46)→List (S46)→Int→Int→ByteArray→Option ((List (S46)) × Bool)
 | 0,_,_,_,_,_,_,_=>none
 | k+1,x0,x6,x7,x9,x190000,x190001,x190002=>if (x9.length:Int) > 0 then ((some (([]:List (S46)):List (S46))).bind fun y199=>(if y199.length+x9.length<4398046511104 then ((some (y199++x9:List (S46))).bind fun y202=>(if y202.length+x7.length<4398046511104 then ((some (y202++x7:List (S46))).bind fun y205=>(if (wrap64 ((x6.length:Int)+(y205.length:Int))) > 40 then (some ((([]:List (S46))),false)) else (spec_l2Full.l0 k x0 x6 y205))) else (none))) else (none))) else (if x6.length<4398046511104 then ((some (x6++[(⟨x190000,x190001,x190002⟩:S46)]:List (S46))).bind fun y211=>(if (wrap64 ((y211.length:Int)+(x7.length:Int))) > 40 then (some ((([]:List (S46))),false)) else (spec_l2Full.l0 k x0 y211 x7))) else (none))
end
def spec_l2Full.f (k:Nat) (l0:List (S30)) (l1:List (S46)):Option ((List (S46)) × Bool):=(some (([]:List (S46)):List (S46))).bind fun y182=>(if y182.length+l1.length<4398046511104 then (spec_l2Full.l0 k l0 (([]:List (S46))) (y182++l1)) else (none))
set_option maxHeartbeats 8000000 in
set_option maxRecDepth 100000 in
theorem spec_l2Full.calls (k:Nat) (A0:Option Addr) (c0:Nat) (l0:List (S30)) (A1:Option Addr) (c1:Nat) (l1:List (S46)) (r1:List (S46)) (r2:Bool) (w:World) (hr0:Kd.C k30 w A0 l0.length l0) (hc0:l0.length≤c0) (hr1:Kd.C k46 w A1 l1.length l1) (hc1:l1.length≤c1) (h:spec_l2Full.f k l0 l1=some (r1,r2)) :
  Calls Tryd.prog 73 #[.slice A0 l0.length c0,.slice A1 l1.length c1] w fun e w'=>∃ v0_:Value,e = .returned (.tuple #[v0_,.bool r2])∧Kd.R k46 46 w' w.heap.size (fun _=>True) v0_ r1∧Below w.heap.size w w':=by
 have hu46:=Tryd.underlying46
 have HR0:=Aside0.mk hr0
 have HC0:=Aside0.mk hc0
 clear hr0 hc0
 have HR1:=Aside0.mk hr1
 have HC1:=Aside0.mk hc1
 clear hr1 hc1
 have HB:=Aside0.mk (Below.refl w.heap.size w)
 have H:((some (([]:List (S46)):List (S46))).bind fun y182=>(if y182.length+l1.length<4398046511104 then (spec_l2Full.l0 k l0 (([]:List (S46))) (y182++l1)) else (none)))=some (r1,r2):=h
 clear h
 obtain ⟨y179,hy179⟩:∃ y_:List (S46),y_=(([]:List (S46))):=⟨_,rfl⟩
 replace H:((some (([]:List (S46)):List (S46))).bind fun y182=>(if y182.length+l1.length<4398046511104 then (spec_l2Full.l0 k l0 y179 (y182++l1)) else (none)))=some (r1,r2):=by first|(rw [hy179];with_reducible exact H)|(have H2_:=(Option.bind_some _ _).symm.trans H;rw [hy179];with_reducible exact H2_)|(have H2_:=(Option.bind_some _ _).symm.trans H;with_reducible exact H2_)|with_reducible exact H|(rw [hy179];exact H)|exact H
 have Ny179:=Aside0.mk hy179
 clear hy179
 obtain ⟨y182,hy182⟩:∃ y_:List (S46),y_=(([]:List (S46))):=⟨_,rfl⟩
 replace H:(if y182.length+l1.length<4398046511104 then (spec_l2Full.l0 k l0 y179 (y182++l1)) else (none))=some (r1,r2):=by first|(rw [hy182];with_reducible exact H)|(have H2_:=(Option.bind_some _ _).symm.trans H;rw [hy182];with_reducible exact H2_)|(have H2_:=(Option.bind_some _ _).symm.trans H;with_reducible exact H2_)|with_reducible exact H|(rw [hy182];exact H)|exact H
 have Ny182:=Aside0.mk hy182
 clear hy182
 by_cases c3:y182.length+l1.length<4398046511104
 ·rw [if_pos c3] at H
  have LMc3:=Aside0.mk c3
  clear c3
  obtain ⟨y185,hy185⟩:∃ y_:List (S46),y_=(y182++l1):=⟨_,rfl⟩
  replace H:(spec_l2Full.l0 k l0 y179 y185)=some (r1,r2):=by first|(rw [hy185];with_reducible exact H)|(have H2_:=(Option.bind_some _ _).symm.trans H;rw [hy185];with_reducible exact H2_)|(have H2_:=(Option.bind_some _ _).symm.trans H;with_reducible exact H2_)|with_reducible exact H|(rw [hy185];exact H)|exact H
  have Ny185:=Aside0.mk hy185
  clear hy185
  have H':=Aside0.mk H
  clear H
  go_enter Tryd.func73,Tryd.ntmps73
  go_wp2_with (first|((with_reducible refine gate_dst (N:=10) rfl ?_);refine Kd.R_lit k46 _ 46 ?hg (N:=10) ?hd (xs:=([]:List (S46))) (inner:=[]) (ok:=fun _=>True) (okp:=fun _=>True) ?hr ?hp (fun _ hk=>hk) trivial (Below.refl _ _) (Nat.le_refl _) (by simp) ?_;(case hd=>rfl);(case hg=>rfl);(case hr=>first|(go_simp;done)|(go_simp;rfl));(case hp=>exact (Reps.none _ _));intro v180 w4 ho5 hb hg_ hnew_;clear hg_ hnew_;(first|rw [← Ny179.out] at ho5|(simp only [Int.reduceToNat] at ho5;rw [← Ny179.out] at ho5));have n0_:=Aside0.mk (Kd.R_lower ho5 (below_size qz4));have n1_:=Aside0.mk (below_step qz4 hb);clear HB;have HO181:=n0_;have HB:=n1_;clear n0_ n1_ hb ho5)|((with_reducible refine gate_dst (N:=11) rfl ?_);refine Kd.R_lit k46 _ 46 ?hg (N:=11) ?hd (xs:=([]:List (S46))) (inner:=[]) (ok:=fun _=>True) (okp:=fun _=>True) ?hr ?hp (fun _ hk=>hk) trivial (Below.refl _ _) (Nat.le_refl _) (by simp) ?_;(case hd=>rfl);(case hg=>rfl);(case hr=>first|(go_simp;done)|(go_simp;rfl));(case hp=>exact (Reps.none _ _));intro v183 w6 ho7 hb hg_ hnew_;clear hg_ hnew_;(first|rw [← Ny182.out] at ho7|(simp only [Int.reduceToNat] at ho7;rw [← Ny182.out] at ho7));have n0_:=Aside0.mk (Kd.R_elder' qz61 (Kd.R_base ho7) hb);have n1_:=Aside0.mk (Kd.R_lower (Kd.R_new' ho7 (Kd.R_lt qz61)) (below_size qz4));have n2_:=Aside0.mk (below_step qz4 hb);clear HO181 HB;have HO181:=n0_;have HO184:=n1_;have HB:=n2_;clear n0_ n1_ n2_ hb ho7)|((with_reducible refine gate_builtin (b:=.append) (xs:=#[.tmp 11,.tmp 12]) rfl ?_);at_builtin;refine Kd.R_append_rows k46 (w0:=w) w.heap.size rfl (.tmp 11) (.tmp 12) 26 46 (.agg #[(.int .i64 0),(.int .i64 0),(.string ⟨#[]⟩)]) 32 rfl Tryd.underlying26 info46 rfl (by decide) (by omega) v183 y182 l1 _ _ _ (fun k_=>some k_≠(v180:Value).ownBlock) (fun _=>False) rfl rfl ?aO ?aR (fun _ _ h=>h) (fun _ h=>h.elim) ?aF ?aB ?aS ?aL ?_;(case aR=>exact qz29);(case aB=>exact qz4);(case aF=>exact (fun k_ hk=>Kd.fresh' (Kd.R_lt qz61) k_ hk));(case aO=>(with_reducible repeat (first|apply Kd.R_alloc|apply Kd.R_drewN|apply Kd.R_drew));exact Kd.R_mono HO184.out (fun _ hk=>hk.2));(case aS=>exact (below_size qz4));(case aL=>have:=LMc3.out;omega);intro v186 w8 ho hb hg hat;rw [← Ny185.out] at ho;have n0_:=Aside0.mk (Kd.R_after (ok:=(fun _=>True)) qz61 hg hat);have n1_:=Aside0.mk (hb);have n2_:=Aside0.mk (ho);clear HO181 HB HO184;have HO181:=n0_;have HB:=n1_;have HO187:=n2_;clear n0_ n1_ n2_ ho hb hg hat))
  go_loopg [6,7] k (fun kq v6 v7 w'=>∃ (x6_1:List (S46)) (x7_1:List (S46)),Aside0 (spec_l2Full.l0 kq l0 x6_1 x7_1=some (r1,r2))∧Aside0 (kq≤k)∧Aside0 (Kd.R k46 46 w' w.heap.size (fun k_=>some k_≠(v7:Value).ownBlock) v6 x6_1)∧Aside0 (Kd.Q k46 46 w' w.heap.size (fun k_=>some k_≠(v6:Value).ownBlock) v7 x7_1)∧Aside0 (Below w.heap.size w w'))
  case atStart=>exact ⟨(y179),(y185),H',⟨Nat.le_refl _⟩,⟨by (with_reducible repeat (first|apply Kd.R_alloc|apply Kd.R_drewN|apply Kd.R_drew));exact Kd.R_mono HO181.out (fun _ hk=>hk.2)⟩,⟨Kd.Q_of_R (by (with_reducible repeat (first|apply Kd.R_alloc|apply Kd.R_drewN|apply Kd.R_drew));exact HO187.out)⟩,⟨qz5⟩⟩
  case round=>
   clear H'
   try clear c1
   try clear p2
   try clear c3
   try clear c7
   obtain ⟨x6_1,x7_1,HA,HK1,HO_6,HO_7,HB⟩:=hrel
   cases gk with
   | zero=>exact absurd HA.out (by simp [spec_l2Full.l0])
   | succ k1=>
    have H:=HA.out
    clear HA
    simp only [spec_l2Full.l0] at H
    by_cases c9:(x7_1.length:Int) > 0
    ·rw [if_pos c9] at H
     have c9b0:decide (0<(x7_1.length:Int))=true:=decide_eq_true c9
     have c9b1:decide (0<x7_1.length)=true:=decide_eq_true (by omega)
     clear c9
     by_cases c10:0<(x7_1.length:Int)
     ·rw [if_pos c10] at H
      have c10b0:decide (0<(x7_1.length:Int))=true:=decide_eq_true c10
      have c10b1:decide (0<x7_1.length)=true:=decide_eq_true (by omega)
      clear c10
      by_cases c11:1≤(x7_1.length:Int)
      ·rw [if_pos c11] at H
       have c11b0:=eq_true c11
       have c11b1:decide (1≤(x7_1.length:Int))=true:=decide_eq_true c11
       clear c11
       obtain ⟨y190,hy190⟩:∃ y_:List (S46),y_=(x7_1.drop (1:Int).toNat):=⟨_,rfl⟩
       replace H:(if ((rd_T46 x7_1 0).f0)=1 then ((spec_l2Get.f k1 l0 ((rd_T46 x7_1 0).f1)).bind fun t196=>(spec_l2Full.j1 k1 l0 x6_1 y190 t196 ((rd_T46 x7_1 0).f0) ((rd_T46 x7_1 0).f1) ((rd_T46 x7_1 0).f2))) else (spec_l2Full.j1 k1 l0 x6_1 y190 (([]:List (S46))) ((rd_T46 x7_1 0).f0) ((rd_T46 x7_1 0).f1) ((rd_T46 x7_1 0).f2)))=some (r1,r2):=by first|(rw [hy190];with_reducible exact H)|(have H2_:=(Option.bind_some _ _).symm.trans H;rw [hy190];with_reducible exact H2_)|(have H2_:=(Option.bind_some _ _).symm.trans H;with_reducible exact H2_)|with_reducible exact H|(rw [hy190];exact H)|exact H
       have Ny190:=Aside0.mk hy190
       clear hy190
       obtain ⟨y193,hy193⟩:∃ y_:List (S46),y_=(([]:List (S46))):=⟨_,rfl⟩
       replace H:(if ((rd_T46 x7_1 0).f0)=1 then ((spec_l2Get.f k1 l0 ((rd_T46 x7_1 0).f1)).bind fun t196=>(spec_l2Full.j1 k1 l0 x6_1 y190 t196 ((rd_T46 x7_1 0).f0) ((rd_T46 x7_1 0).f1) ((rd_T46 x7_1 0).f2))) else (spec_l2Full.j1 k1 l0 x6_1 y190 y193 ((rd_T46 x7_1 0).f0) ((rd_T46 x7_1 0).f1) ((rd_T46 x7_1 0).f2)))=some (r1,r2):=by first|(rw [hy193];with_reducible exact H)|(have H2_:=(Option.bind_some _ _).symm.trans H;rw [hy193];with_reducible exact H2_)|(have H2_:=(Option.bind_some _ _).symm.trans H;with_reducible exact H2_)|with_reducible exact H|(rw [hy193];exact H)|exact H
       have Ny193:=Aside0.mk hy193
       clear hy193
       have HC12:=Aside0.mk H
       clear H
       obtain ⟨Ao13,co13,eo13,_⟩:=Kd.Q_slice HO_7.out
       subst eo13
       have p188:0≤(0:Int):=(by omega)
       have q188:0<(x7_1.length:Int):=of_decide_eq_true qz6
       obtain ⟨ad188,e188,hx188_0,hx188_1,hx188_2⟩:=at_T46 (Kd.Q_reads' HO_7.out).2.2 0 p188 q188
       cases e188
       have qi188:(0<x7_1.length)=True:=eq_true (by omega)
       (try rw [show ((0:Int)).toNat=0 from rfl] at hx188_0)
       (try rw [show 0 * 3=0 from rfl] at hx188_0)
       (try rw [Addr.add_zero'] at hx188_0)
       (try rw [show ((0:Int)).toNat=0 from rfl] at hx188_1)
       (try rw [show 0 * 3=0 from rfl] at hx188_1)
       (try rw [Addr.add_zero'] at hx188_1)
       (try rw [show ((0:Int)).toNat=0 from rfl] at hx188_2)
       (try rw [show 0 * 3=0 from rfl] at hx188_2)
       (try rw [Addr.add_zero'] at hx188_2)
       replace p188:=eq_true p188
       replace q188:=eq_true q188
       go_upto_if 25 with (first|((with_reducible refine gate_dst (N:=8) rfl ?_);refine box_event ?hg (N:=8) ?hd (cs:=#[.int .i64 0,.int .i64 0,.string (⟨#[]⟩:ByteArray)]) (t:=46) ?hr ?_;(case hd=>rfl);(case hg=>rfl);(case hr=>first|(go_simp;done)|(go_simp;rfl));intro gb189 hg w14 hbox hb;have n0_:=Aside0.mk (Kd.R_below (Kd.R_elderB qz20 gb189 (Nat.le_of_eq hg.symm)) hb);have n1_:=Aside0.mk (Kd.Q_below (Kd.Q_elderB qz23 gb189 (Nat.le_of_eq hg.symm)) hb);have n2_:=Aside0.mk (below_step qz4 hb);have n3_:=Aside0.mk (hbox);have n4_:=Aside0.mk ((by rw [hg];exact (below_size qz4):w.heap.size≤gb189));have n5_:=Aside0.mk ((by rw [hg];exact (below_size qz4):w.heap.size≤gb189));clear HO_6 HO_7 HB;have HO_6:=n0_;have HO_7:=n1_;have HB:=n2_;have BK189:=n3_;have GW189:=n4_;have GE189:=n5_;clear n0_ n1_ n2_ n3_ n4_ n5_ hb hbox hg;have hcz15_0:w14.cell? ⟨gb189,0,none⟩=some (.int .i64 0):=(blk_cell BK189.out 0).trans rfl;have hcz15_1:w14.cell? ⟨gb189,1,none⟩=some (.int .i64 0):=(blk_cell BK189.out 1).trans rfl;have hcz15_2:w14.cell? ⟨gb189,2,none⟩=some (.string (⟨#[]⟩:ByteArray)):=(blk_cell BK189.out 2).trans rfl;have hfz15_0:=blk_frozen BK189.out 0;have hfz15_1:=blk_frozen BK189.out 1;have hfz15_2:=blk_frozen BK189.out 2)|((with_reducible refine gate_store (t:=46) (p:=8) rfl ?_);refine store_event (t:=46) (p:=8) (v:=?vo_w16) (w1:=(((w14.setCell ⟨gb189,0,none⟩ (.int .i64 ((rd_T46 x7_1 0).f0))).setCell ⟨gb189,1,none⟩ (.int .i64 ((rd_T46 x7_1 0).f1))).setCell ⟨gb189,2,none⟩ (.string ((rd_T46 x7_1 0).f2)))) ?hg ?ho ?hn ?hr ?_;(case ho=>rfl);(case hg=>rfl);(case hn=>rfl);(case hr=>first|(go_simp;done)|(go_simp;rfl));intro w16 hw;have n0_:Aside0 (Kd.R k46 46 w16 w.heap.size (fun k_=>some k_≠(.slice (some ad188) x7_1.length co13:Value).ownBlock∧k_≠gb189) u6 x6_1):=⟨(by rw [hw];exact (by (with_reducible repeat (first|apply Kd.R_alloc|apply Kd.R_drewN|apply Kd.R_drew));exact Kd.R_mono (Kd.R_far (p:=⟨gb189,2,none⟩) (Kd.R_far (p:=⟨gb189,1,none⟩) (Kd.R_far (p:=⟨gb189,0,none⟩) (Kd.R_mono HO_6.out (fun k_ hk=>(⟨hk,hk.2⟩:_∧k_≠gb189))) (fun _ hk=>hk.2) (.int .i64 ((rd_T46 x7_1 0).f0))) (fun _ hk=>hk.2) (.int .i64 ((rd_T46 x7_1 0).f1))) (fun _ hk=>hk.2) (.string ((rd_T46 x7_1 0).f2))) (fun _ hk=>⟨hk.1.1,hk.1.2⟩)))⟩;have n1_:Aside0 (Kd.Q k46 46 w16 w.heap.size (fun k_=>some k_≠(u6:Value).ownBlock∧k_≠gb189) (.slice (some ad188) x7_1.length co13) x7_1):=⟨(by rw [hw];exact (by (with_reducible repeat (first|apply Kd.Q_alloc|apply Kd.Q_drewN|apply Kd.Q_drew));exact Kd.Q_mono (Kd.Q_far (p:=⟨gb189,2,none⟩) (Kd.Q_far (p:=⟨gb189,1,none⟩) (Kd.Q_far (p:=⟨gb189,0,none⟩) (Kd.Q_mono HO_7.out (fun k_ hk=>(⟨hk,hk.2⟩:_∧k_≠gb189))) (fun _ hk=>hk.2) (.int .i64 ((rd_T46 x7_1 0).f0))) (fun _ hk=>hk.2) (.int .i64 ((rd_T46 x7_1 0).f1))) (fun _ hk=>hk.2) (.string ((rd_T46 x7_1 0).f2))) (fun _ hk=>⟨hk.1.1,hk.1.2⟩)))⟩;have n2_:Aside0 (w16.heap[gb189]?=some (.cells #[.int .i64 ((rd_T46 x7_1 0).f0),.int .i64 ((rd_T46 x7_1 0).f1),.string ((rd_T46 x7_1 0).f2)] 46 (0,0))):=⟨(by rw [hw];exact (by (with_reducible repeat (first|refine blk_drewN ?_ _|refine blk_drew ?_|refine blk_alloc ?_ _));refine blk_put (cs:=#[.int .i64 ((rd_T46 x7_1 0).f0),.int .i64 ((rd_T46 x7_1 0).f1),.string (⟨#[]⟩:ByteArray)]) ?_ 2 _ rfl;(with_reducible repeat (first|refine blk_drewN ?_ _|refine blk_drew ?_|refine blk_alloc ?_ _));refine blk_put (cs:=#[.int .i64 ((rd_T46 x7_1 0).f0),.int .i64 0,.string (⟨#[]⟩:ByteArray)]) ?_ 1 _ rfl;(with_reducible repeat (first|refine blk_drewN ?_ _|refine blk_drew ?_|refine blk_alloc ?_ _));refine blk_put (cs:=#[.int .i64 0,.int .i64 0,.string (⟨#[]⟩:ByteArray)]) ?_ 0 _ rfl;(with_reducible repeat (first|refine blk_drewN ?_ _|refine blk_drew ?_|refine blk_alloc ?_ _));exact BK189.out))⟩;have n3_:Aside0 (Below w.heap.size w w16):=⟨(by rw [hw];exact qz8)⟩;clear hw HO_6 HO_7 BK189 HB;have HO_6:=n0_;have HO_7:=n1_;have BK189:=n2_;have HB:=n3_;clear n0_ n1_ n2_ n3_;have q17:(1:Int)≤((x7_1.length:Int):Int):=of_decide_eq_true qz6;obtain ⟨i017,hi017,_,hsz17,_⟩:=info_parts info46;have hcut17:=cut_from (P:=Tryd.prog) 26 46 .i64 Tryd.underlying26 hi017 3 hsz17 (some ad188) x7_1.length co13 1 (by omega) q17;have hr17:=Kd.Q_drop (k:=(1:Int).toNat) HO_7.out (by omega);obtain ⟨A17,hA17⟩:∃ A1,A1=(if co13=(1:Int).toNat then (some ad188) else ((some ad188):Option Addr).map (·.add ((1:Int).toNat * 3))):=⟨_,rfl⟩;obtain ⟨c17,hc17⟩:∃ c1,c1=co13 - (1:Int).toNat:=⟨_,rfl⟩;have hy17:y190.length=x7_1.length - (1:Int).toNat:=(by rw [Ny190.out,List.length_drop]);rw [← Ny190.out] at hr17;rw [← hy17,← hA17,← hc17] at hcut17;replace hr17:Kd.Q k46 46 w16 w.heap.size (fun k_=>some k_≠(u6:Value).ownBlock∧k_≠gb189) (.slice A17 y190.length c17) y190:=(by rw [hA17,hc17,hy17];exact hr17);have HE17:Aside0 ((Value.slice A17 y190.length c17).ownBlock=(.slice (some ad188) x7_1.length co13:Value).ownBlock):=⟨by rw [hA17];split <;> (cases ((some ad188):Option Addr) <;> rfl)⟩;clear hy17 hi017 hsz17 HO_7 hA17 hc17;have HO192:=Aside0.mk hr17;clear hr17;replace q17:=eq_true q17;have n_:=Aside0.mk (Kd.R_mono (ok':=fun k_=>(some k_≠(.slice A17 y190.length c17:Value).ownBlock∧k_≠gb189)) HO_6.out (fun k_ hk=>⟨(by rw [HE17.out];exact hk.1),hk.2⟩));clear HO_6;have HO_6:=n_;clear n_)|((with_reducible refine gate_dst (N:=22) rfl ?_);refine Kd.R_lit k46 _ 46 ?hg (N:=22) ?hd (xs:=([]:List (S46))) (inner:=[]) (ok:=fun _=>True) (okp:=fun _=>True) ?hr ?hp (fun _ hk=>hk) trivial (Below.refl _ _) (Nat.le_refl _) (by simp) ?_;(case hd=>rfl);(case hg=>rfl);(case hr=>first|(go_simp;done)|(go_simp;rfl));(case hp=>exact (Reps.none _ _));intro v194 w18 ho19 hb hg_ hnew_;clear hg_ hnew_;(first|rw [← Ny193.out] at ho19|(simp only [Int.reduceToNat] at ho19;rw [← Ny193.out] at ho19));have n0_:=Aside0.mk (Kd.R_elder' qz20 (Kd.R_base ho19) hb);have n1_:=Aside0.mk (Kd.Q_elder' qz62 (Kd.R_base ho19) hb);have n2_:=Aside0.mk (Kd.R_lower (Kd.R_newB (Kd.R_new' (Kd.R_new' ho19 (Kd.R_lt qz20)) (Kd.Q_lt qz62)) (g:=gb189) (o:=.cells #[.int .i64 ((rd_T46 x7_1 0).f0),.int .i64 ((rd_T46 x7_1 0).f1),.string ((rd_T46 x7_1 0).f2)] 46 (0,0)) qz11) (below_size qz8));have n3_:=Aside0.mk (blk_below (g:=gb189) (o:=.cells #[.int .i64 ((rd_T46 x7_1 0).f0),.int .i64 ((rd_T46 x7_1 0).f1),.string ((rd_T46 x7_1 0).f2)] 46 (0,0)) qz11 hb);have n4_:=Aside0.mk (below_step qz8 hb);clear HO_6 HO192 BK189 HB;have HO_6:=n0_;have HO192:=n1_;have HO195:=n2_;have BK189:=n3_;have HB:=n4_;clear n0_ n1_ n2_ n3_ n4_ hb ho19;have hcz20_0:w18.cell? ⟨gb189,0,none⟩=some (.int .i64 ((rd_T46 x7_1 0).f0)):=(blk_cell BK189.out 0).trans rfl;have hcz20_1:w18.cell? ⟨gb189,1,none⟩=some (.int .i64 ((rd_T46 x7_1 0).f1)):=(blk_cell BK189.out 1).trans rfl;have hcz20_2:w18.cell? ⟨gb189,2,none⟩=some (.string ((rd_T46 x7_1 0).f2)):=(blk_cell BK189.out 2).trans rfl;have hfz20_0:=blk_frozen BK189.out 0;have hfz20_1:=blk_frozen BK189.out 1;have hfz20_2:=blk_frozen BK189.out 2))
       (try simp only [Act.put,List.setIfInBounds_toArray,List.set_cons_zero,List.set_cons_succ])
       go_cut [9] (fun v9 wc=>∃ (kq:Nat) (x9_11:List (S46)),Aside0 (spec_l2Full.j1 kq l0 x6_1 y190 x9_11 ((rd_T46 x7_1 0).f0) ((rd_T46 x7_1 0).f1) ((rd_T46 x7_1 0).f2)=some (r1,r2))∧Aside0 (kq≤k1)∧Aside0 (Kd.R k46 46 wc w.heap.size (fun k_=>some k_≠((.slice A17 y190.length c17):Value).ownBlock∧k_≠gb189) u6 x6_1)∧Aside0 (Kd.Q k46 46 wc w.heap.size (fun k_=>some k_≠(u6:Value).ownBlock∧k_≠gb189) (.slice A17 y190.length c17) y190)∧Aside0 (Kd.V k46 46 wc w.heap.size (fun k_=>some k_≠(u6:Value).ownBlock∧some k_≠((.slice A17 y190.length c17):Value).ownBlock∧k_≠gb189) v9 x9_11)∧Aside0 (wc.heap[gb189]?=some (.cells #[.int .i64 ((rd_T46 x7_1 0).f0),.int .i64 ((rd_T46 x7_1 0).f1),.string ((rd_T46 x7_1 0).f2)] 46 (0,0)))∧Aside0 (Below w.heap.size w wc))
       case first=>
        have H:=HC12.out
        clear HC12
        by_cases c21:((rd_T46 x7_1 0).f0)=1
        ·rw [if_pos c21] at H
         have c21b0:(((rd_T46 x7_1 0).f0) == 1)=true:=beq_iff_eq.mpr c21
         have c21b1:(((rd_T46 x7_1 0).f0) != 1)=false:=bne_eq_false_iff_eq.mpr c21
         clear c21
         (first|rw [c21b0]|(simp only [i64_w,i32_w];rw [c21b0])|skip)
         replace H:=Option.bind_eq_some_iff.mp H
         obtain ⟨t196,A220,H⟩:=H
         replace H:(spec_l2Full.j1 k1 l0 x6_1 y190 t196 ((rd_T46 x7_1 0).f0) ((rd_T46 x7_1 0).f1) ((rd_T46 x7_1 0).f2))=some (r1,r2):=H
         have A22:=Aside0.mk A220
         clear A220
         have H':=Aside0.mk H
         clear H
         have hcz23_0:w18.cell? ⟨gb189,0,none⟩=some (.int .i64 ((rd_T46 x7_1 0).f0)):=(blk_cell BK189.out 0).trans rfl
         have hcz23_1:w18.cell? ⟨gb189,1,none⟩=some (.int .i64 ((rd_T46 x7_1 0).f1)):=(blk_cell BK189.out 1).trans rfl
         have hcz23_2:w18.cell? ⟨gb189,2,none⟩=some (.string ((rd_T46 x7_1 0).f2)):=(blk_cell BK189.out 2).trans rfl
         have hfz23_0:=blk_frozen BK189.out 0
         have hfz23_1:=blk_frozen BK189.out 1
         have hfz23_2:=blk_frozen BK189.out 2
         go_wp2_with (first|((with_reducible refine gate_callee (f:=92) rfl ?_);refine goesL_ (some 29) rfl rfl Tryd.func92 (by kernel_rfl) rfl #[.slice A0 l0.length c0,.int .i64 ((rd_T46 x7_1 0).f1)] rfl qz14 ?_;(with_reducible refine (spec_l2Get.calls k1 (fun k_=>k_<w.heap.size) _ _ l0 ((rd_T46 x7_1 0).f1) t196 _ ?side1 A22.out).mono ?_);(case side1=>exact Kd.V_mk HC0.out (Kd.F_below (Kd.C_F k30_heap HR0.out) qz8));rintro e w24 ⟨v197,rfl,ho0,hb⟩;refine ⟨_,rfl,?_⟩;have n0_:=Aside0.mk (Kd.R_below qz20 hb);have n1_:=Aside0.mk (Kd.Q_below qz62 hb);have n2_:=Aside0.mk (Kd.R_below (by (with_reducible repeat (first|apply Kd.R_alloc|apply Kd.R_drewN|apply Kd.R_drew));exact HO195.out) hb);have n3_:=Aside0.mk (Kd.V_lower (Kd.V_mono (ok':=fun k_=>some k_≠(u6:Value).ownBlock∧some k_≠(.slice A17 y190.length c17:Value).ownBlock∧some k_≠(v194:Value).ownBlock∧k_≠gb189) ho0 (fun k_ hk_=>⟨Or.elim hk_ (fun hs_=>fun e_=>Nat.not_le.2 hs_ (Kd.R_base HO_6.out k_ e_.symm)) (fun hn_=>(Kd.fresh' (Kd.R_lt qz20) k_ hn_)),Or.elim hk_ (fun hs_=>fun e_=>Nat.not_le.2 hs_ (Kd.Q_base HO192.out k_ e_.symm)) (fun hn_=>(Kd.fresh' (Kd.Q_lt qz62) k_ hn_)),Or.elim hk_ (fun hs_=>fun e_=>Nat.not_le.2 hs_ (Kd.R_base HO195.out k_ e_.symm)) (fun hn_=>(Kd.fresh' (Kd.R_lt (by (with_reducible repeat (first|apply Kd.R_alloc|apply Kd.R_drewN|apply Kd.R_drew));exact HO195.out)) k_ hn_)),Or.elim hk_ (fun hs_=>fun e_=>Nat.not_le.2 hs_ (by rw [e_];exact GW189.out)) (fun hn_=>(Kd.freshB (g:=gb189) (o:=.cells #[.int .i64 ((rd_T46 x7_1 0).f0),.int .i64 ((rd_T46 x7_1 0).f1),.string ((rd_T46 x7_1 0).f2)] 46 (0,0)) qz11 k_ hn_))⟩)) (below_size qz8));have n4_:=Aside0.mk (blk_below (g:=gb189) (o:=.cells #[.int .i64 ((rd_T46 x7_1 0).f0),.int .i64 ((rd_T46 x7_1 0).f1),.string ((rd_T46 x7_1 0).f2)] 46 (0,0)) qz11 hb);have n5_:=Aside0.mk (below_step qz8 hb);clear HO_6 HO192 HO195 BK189 HB;have HO_6:=n0_;have HO192:=n1_;have HO195:=n2_;have HO198:=n3_;have BK189:=n4_;have HB:=n5_;clear n0_ n1_ n2_ n3_ n4_ n5_;(try clear hb);(try clear hb2);(try clear hk);(try clear hi);(try clear ho0)))
         go_meet
         case rel=>exact ⟨_,(t196),H',⟨qz54⟩,⟨qz87⟩,⟨qz86⟩,⟨by (with_reducible repeat (first|apply Kd.V_alloc|apply Kd.V_drewN|apply Kd.V_drew));exact Kd.V_mono HO198.out (fun _ hk=>⟨hk.1,⟨hk.2.1,hk.2.2.2⟩⟩)⟩,⟨qz11⟩,⟨qz8⟩⟩
        ·rw [if_neg c21] at H
         have c21b0:(((rd_T46 x7_1 0).f0) == 1)=false:=beq_eq_false_iff_ne.mpr c21
         have c21b1:(((rd_T46 x7_1 0).f0) != 1)=true:=bne_iff_ne.mpr c21
         (first|rw [c21b0]|(simp only [i64_w,i32_w];rw [c21b0])|skip)
         have H':=Aside0.mk H
         clear H
         go_wp2
         go_meet
         case rel=>exact ⟨_,(y193),H',⟨qz54⟩,⟨qz87⟩,⟨qz86⟩,⟨Kd.R_V (by (with_reducible repeat (first|apply Kd.R_alloc|apply Kd.R_drewN|apply Kd.R_drew));exact Kd.R_mono HO195.out (fun _ hk=>⟨hk.1.1.2,⟨hk.1.2,hk.2⟩⟩))⟩,⟨qz11⟩,⟨qz8⟩⟩
       case rest=>
        clear HC12
        try clear c1
        try clear p1
        try clear q1
        try clear hx1
        try clear qi1
        try clear c2
        try clear p2
        try clear c3
        try clear c7
        try clear c9
        try clear c9b0
        try clear c9b1
        try clear c10
        try clear c10b0
        try clear c10b1
        try clear c11
        try clear c11b0
        try clear c11b1
        try clear c17
        try clear q17
        try clear p18
        try clear q18
        try clear hx18
        try clear qi18
        try clear c21
        try clear c21b0
        try clear c21b1
        try clear hcz15_0
        try clear hcz15_1
        try clear hcz15_2
        try clear hcz20_0
        try clear hcz20_1
        try clear hcz20_2
        try clear hcz23_0
        try clear hcz23_1
        try clear hcz23_2
        try clear hfz15_0
        try clear hfz15_1
        try clear hfz15_2
        try clear hfz20_0
        try clear hfz20_1
        try clear hfz20_2
        try clear hfz23_0
        try clear hfz23_1
        try clear hfz23_2
        try clear hx188_0
        try clear hx188_1
        try clear hx188_2
        try clear p188
        try clear p2
        try clear q17
        try clear q188
        obtain ⟨kq,x9_11,HA,HJ11,HO_6,HO_7,HO_9,BK189,HB⟩:=hcut
        cases kq with
        | zero=>exact absurd HA.out (by simp [spec_l2Full.j1])
        | succ kj11=>
         have H:=HA.out
         clear HA
         simp only [spec_l2Full.j1] at H
         by_cases c25:(x9_11.length:Int) > 0
         ·rw [if_pos c25] at H
          have c25b0:decide (0<(x9_11.length:Int))=true:=decide_eq_true c25
          have c25b1:decide (0<x9_11.length)=true:=decide_eq_true (by omega)
          clear c25
          obtain ⟨y199,hy199⟩:∃ y_:List (S46),y_=(([]:List (S46))):=⟨_,rfl⟩
          replace H:(if y199.length+x9_11.length<4398046511104 then ((some (y199++x9_11:List (S46))).bind fun y202=>(if y202.length+y190.length<4398046511104 then ((some (y202++y190:List (S46))).bind fun y205=>(if (wrap64 ((x6_1.length:Int)+(y205.length:Int))) > 40 then (some ((([]:List (S46))),false)) else (spec_l2Full.l0 kj11 l0 x6_1 y205))) else (none))) else (none))=some (r1,r2):=by first|(rw [hy199];with_reducible exact H)|(have H2_:=(Option.bind_some _ _).symm.trans H;rw [hy199];with_reducible exact H2_)|(have H2_:=(Option.bind_some _ _).symm.trans H;with_reducible exact H2_)|with_reducible exact H|(rw [hy199];exact H)|exact H
          have Ny199:=Aside0.mk hy199
          clear hy199
          by_cases c26:y199.length+x9_11.length<4398046511104
          ·rw [if_pos c26] at H
           have LMc26:=Aside0.mk c26
           clear c26
           obtain ⟨y202,hy202⟩:∃ y_:List (S46),y_=(y199++x9_11):=⟨_,rfl⟩
           replace H:(if y202.length+y190.length<4398046511104 then ((some (y202++y190:List (S46))).bind fun y205=>(if (wrap64 ((x6_1.length:Int)+(y205.length:Int))) > 40 then (some ((([]:List (S46))),false)) else (spec_l2Full.l0 kj11 l0 x6_1 y205))) else (none))=some (r1,r2):=by first|(rw [hy202];with_reducible exact H)|(have H2_:=(Option.bind_some _ _).symm.trans H;rw [hy202];with_reducible exact H2_)|(have H2_:=(Option.bind_some _ _).symm.trans H;with_reducible exact H2_)|with_reducible exact H|(rw [hy202];exact H)|exact H
           have Ny202:=Aside0.mk hy202
           clear hy202
           by_cases c27:y202.length+y190.length<4398046511104
           ·rw [if_pos c27] at H
            have LMc27:=Aside0.mk c27
            clear c27
            obtain ⟨y205,hy205⟩:∃ y_:List (S46),y_=(y202++y190):=⟨_,rfl⟩
            replace H:(if (wrap64 ((x6_1.length:Int)+(y205.length:Int))) > 40 then (some ((([]:List (S46))),false)) else (spec_l2Full.l0 kj11 l0 x6_1 y205))=some (r1,r2):=by first|(rw [hy205];with_reducible exact H)|(have H2_:=(Option.bind_some _ _).symm.trans H;rw [hy205];with_reducible exact H2_)|(have H2_:=(Option.bind_some _ _).symm.trans H;with_reducible exact H2_)|with_reducible exact H|(rw [hy205];exact H)|exact H
            have Ny205:=Aside0.mk hy205
            clear hy205
            by_cases c28:(wrap64 ((x6_1.length:Int)+(y205.length:Int))) > 40
            ·rw [if_pos c28] at H
             have c28b0:decide (40<(wrap64 ((x6_1.length:Int)+(y205.length:Int))))=true:=decide_eq_true c28
             clear c28
             obtain ⟨y208,hy208⟩:∃ y_:List (S46),y_=(([]:List (S46))):=⟨_,rfl⟩
             replace H:(some (y208,false))=some (r1,r2):=by first|(rw [hy208];with_reducible exact H)|(have H2_:=(Option.bind_some _ _).symm.trans H;rw [hy208];with_reducible exact H2_)|(have H2_:=(Option.bind_some _ _).symm.trans H;with_reducible exact H2_)|with_reducible exact H|(rw [hy208];exact H)|exact H
             have Ny208:=Aside0.mk hy208
             clear hy208
             simp only [Option.some.injEq,Prod.mk.injEq] at H
             obtain ⟨rfl,rfl⟩:=H
             obtain ⟨Ao29,co29,eo29⟩:=Kd.V_slice HO_9.out
             subst eo29
             go_wp2_with (first|((with_reducible refine gate_dst (N:=33) rfl ?_);refine Kd.R_lit k46 _ 46 ?hg (N:=33) ?hd (xs:=([]:List (S46))) (inner:=[]) (ok:=fun _=>True) (okp:=fun _=>True) ?hr ?hp (fun _ hk=>hk) trivial (Below.refl _ _) (Nat.le_refl _) (by simp) ?_;(case hd=>rfl);(case hg=>rfl);(case hr=>first|(go_simp;done)|(go_simp;rfl));(case hp=>exact (Reps.none _ _));intro v200 w30 ho31 hb hg_ hnew_;clear hg_ hnew_;(first|rw [← Ny199.out] at ho31|(simp only [Int.reduceToNat] at ho31;rw [← Ny199.out] at ho31));have n0_:=Aside0.mk (Kd.R_elder' qz20 (Kd.R_base ho31) hb);have n1_:=Aside0.mk (Kd.Q_elder' qz23 (Kd.R_base ho31) hb);have n2_:=Aside0.mk (Kd.V_elder' qz41 (Kd.R_base ho31) hb);have n3_:=Aside0.mk (Kd.R_lower (Kd.R_newB (Kd.R_new' (Kd.R_new' ho31 (Kd.R_lt qz20)) (Kd.Q_lt qz23)) (g:=gb189) (o:=.cells #[.int .i64 ((rd_T46 x7_1 0).f0),.int .i64 ((rd_T46 x7_1 0).f1),.string ((rd_T46 x7_1 0).f2)] 46 (0,0)) qz11) (below_size qz8));have n4_:=Aside0.mk (blk_below (g:=gb189) (o:=.cells #[.int .i64 ((rd_T46 x7_1 0).f0),.int .i64 ((rd_T46 x7_1 0).f1),.string ((rd_T46 x7_1 0).f2)] 46 (0,0)) qz11 hb);have n5_:=Aside0.mk (below_step qz8 hb);clear HO_6 HO_7 HO_9 BK189 HB;have HO_6:=n0_;have HO_7:=n1_;have HO_9:=n2_;have HO201:=n3_;have BK189:=n4_;have HB:=n5_;clear n0_ n1_ n2_ n3_ n4_ n5_ hb ho31)|((with_reducible refine gate_builtin (b:=.append) (xs:=#[.tmp 33,.tmp 34]) rfl ?_);at_builtin;refine Kd.R_append_rows k46 (w0:=w) w.heap.size rfl (.tmp 33) (.tmp 34) 26 46 (.agg #[(.int .i64 0),(.int .i64 0),(.string ⟨#[]⟩)]) 32 rfl Tryd.underlying26 info46 rfl (by decide) (by omega) v200 y199 x9_11 _ _ _ (fun k_=>some k_≠(u6:Value).ownBlock∧some k_≠(.slice A17 y190.length c17:Value).ownBlock∧k_≠gb189) (fun _=>False) rfl rfl ?aO ?aR (fun _ _ h=>h) (fun _ h=>h.elim) ?aF ?aB ?aS ?aL ?_;(case aR=>exact qz80);(case aB=>exact qz8);(case aF=>exact (fun k_ hk=>⟨Kd.fresh' (Kd.R_lt qz20) k_ hk,Kd.fresh' (Kd.Q_lt qz23) k_ hk,Kd.freshB (g:=gb189) (o:=.cells #[.int .i64 ((rd_T46 x7_1 0).f0),.int .i64 ((rd_T46 x7_1 0).f1),.string ((rd_T46 x7_1 0).f2)] 46 (0,0)) qz11 k_ hk⟩));(case aO=>exact qz84);(case aS=>exact (below_size qz8));(case aL=>have:=LMc26.out;omega);intro v203 w32 ho hb hg hat;rw [← Ny202.out] at ho;have n0_:=Aside0.mk (Kd.R_after (ok:=(fun k_=>some k_≠(.slice A17 y190.length c17:Value).ownBlock∧k_≠gb189)) qz20 hg hat);have n1_:=Aside0.mk (Kd.Q_after (ok:=(fun k_=>some k_≠(u6:Value).ownBlock∧k_≠gb189)) qz23 hg hat);have n2_:=Aside0.mk (Kd.V_afterv (ok:=(fun k_=>some k_≠(u6:Value).ownBlock∧some k_≠(.slice A17 y190.length c17:Value).ownBlock∧k_≠gb189)) qz41 hg hat);have n3_:=Aside0.mk (blk_grown (g:=gb189) (o:=.cells #[.int .i64 ((rd_T46 x7_1 0).f0),.int .i64 ((rd_T46 x7_1 0).f1),.string ((rd_T46 x7_1 0).f2)] 46 (0,0)) qz11 hg (Kd.R_away HO201.out (fun _ hk=>hk.2)));have n4_:=Aside0.mk (hb);have n5_:=Aside0.mk (ho);clear HO_6 HO_7 HO_9 BK189 HB HO201;have HO_6:=n0_;have HO_7:=n1_;have HO_9:=n2_;have BK189:=n3_;have HB:=n4_;have HO204:=n5_;clear n0_ n1_ n2_ n3_ n4_ n5_ ho hb hg hat)|((with_reducible refine gate_builtin (b:=.append) (xs:=#[.tmp 35,.tmp 36]) rfl ?_);at_builtin;refine Kd.R_append_rows k46 (w0:=w) w.heap.size rfl (.tmp 35) (.tmp 36) 26 46 (.agg #[(.int .i64 0),(.int .i64 0),(.string ⟨#[]⟩)]) 32 rfl Tryd.underlying26 info46 rfl (by decide) (by omega) v203 y202 y190 _ _ _ (fun k_=>some k_≠(u6:Value).ownBlock∧some k_≠(.slice A17 y190.length c17:Value).ownBlock∧k_≠gb189) (fun _=>False) rfl rfl ?aO ?aR (fun _ _ h=>h) (fun _ h=>h.elim) ?aF ?aB ?aS ?aL ?_;(case aR=>exact qz82);(case aB=>exact qz8);(case aF=>exact (fun k_ hk=>⟨Kd.fresh' (Kd.R_lt qz20) k_ hk,Kd.fresh' (Kd.Q_lt qz23) k_ hk,Kd.freshB (g:=gb189) (o:=.cells #[.int .i64 ((rd_T46 x7_1 0).f0),.int .i64 ((rd_T46 x7_1 0).f1),.string ((rd_T46 x7_1 0).f2)] 46 (0,0)) qz11 k_ hk⟩));(case aO=>(with_reducible repeat (first|apply Kd.R_alloc|apply Kd.R_drewN|apply Kd.R_drew));exact HO204.out);(case aS=>exact (below_size qz8));(case aL=>have:=LMc27.out;omega);intro v206 w33 ho hb hg hat;rw [← Ny205.out] at ho;have n0_:=Aside0.mk (Kd.R_after (ok:=(fun k_=>some k_≠(.slice A17 y190.length c17:Value).ownBlock∧k_≠gb189)) qz20 hg hat);have n1_:=Aside0.mk (Kd.Q_after (ok:=(fun k_=>some k_≠(u6:Value).ownBlock∧k_≠gb189)) qz23 hg hat);have n2_:=Aside0.mk (Kd.V_afterv (ok:=(fun k_=>some k_≠(u6:Value).ownBlock∧some k_≠(.slice A17 y190.length c17:Value).ownBlock∧k_≠gb189)) qz41 hg hat);have n3_:=Aside0.mk (blk_grown (g:=gb189) (o:=.cells #[.int .i64 ((rd_T46 x7_1 0).f0),.int .i64 ((rd_T46 x7_1 0).f1),.string ((rd_T46 x7_1 0).f2)] 46 (0,0)) qz11 hg (Kd.R_away HO204.out (fun _ hk=>hk.2.2)));have n4_:=Aside0.mk (hb);have n5_:=Aside0.mk (ho);clear HO_6 HO_7 HO_9 BK189 HB HO204;have HO_6:=n0_;have HO_7:=n1_;have HO_9:=n2_;have BK189:=n3_;have HB:=n4_;have HO207:=n5_;clear n0_ n1_ n2_ n3_ n4_ n5_ ho hb hg hat;obtain ⟨Ao34,co34,eo34⟩:=Kd.R_slice HO_6.out;subst eo34;obtain ⟨Ao35,co35,eo35⟩:=Kd.R_slice HO207.out;subst eo35)|((with_reducible refine gate_dst (N:=48) rfl ?_);refine Kd.R_lit k46 _ 46 ?hg (N:=48) ?hd (xs:=([]:List (S46))) (inner:=[]) (ok:=fun _=>True) (okp:=fun _=>True) ?hr ?hp (fun _ hk=>hk) trivial (Below.refl _ _) (Nat.le_refl _) (by simp) ?_;(case hd=>rfl);(case hg=>rfl);(case hr=>first|(go_simp;done)|(go_simp;rfl));(case hp=>exact (Reps.none _ _));intro v209 w36 ho37 hb hg_ hnew_;clear hg_ hnew_;(first|rw [← Ny208.out] at ho37|(simp only [Int.reduceToNat] at ho37;rw [← Ny208.out] at ho37));have n0_:=Aside0.mk (Kd.R_elder' qz20 (Kd.R_base ho37) hb);have n1_:=Aside0.mk (Kd.Q_elder' qz23 (Kd.R_base ho37) hb);have n2_:=Aside0.mk (Kd.V_elder' qz41 (Kd.R_base ho37) hb);have n3_:=Aside0.mk (Kd.R_elder' (by (with_reducible repeat (first|apply Kd.R_alloc|apply Kd.R_drewN|apply Kd.R_drew));exact HO207.out) (Kd.R_base ho37) hb);have n4_:=Aside0.mk (Kd.R_lower (Kd.R_newB (Kd.R_new' (Kd.R_new' (Kd.R_new' ho37 (Kd.R_lt qz20)) (Kd.Q_lt qz23)) (Kd.R_lt (by (with_reducible repeat (first|apply Kd.R_alloc|apply Kd.R_drewN|apply Kd.R_drew));exact HO207.out))) (g:=gb189) (o:=.cells #[.int .i64 ((rd_T46 x7_1 0).f0),.int .i64 ((rd_T46 x7_1 0).f1),.string ((rd_T46 x7_1 0).f2)] 46 (0,0)) qz11) (below_size qz8));have n5_:=Aside0.mk (blk_below (g:=gb189) (o:=.cells #[.int .i64 ((rd_T46 x7_1 0).f0),.int .i64 ((rd_T46 x7_1 0).f1),.string ((rd_T46 x7_1 0).f2)] 46 (0,0)) qz11 hb);have n6_:=Aside0.mk (below_step qz8 hb);clear HO_6 HO_7 HO_9 HO207 BK189 HB;have HO_6:=n0_;have HO_7:=n1_;have HO_9:=n2_;have HO207:=n3_;have HO210:=n4_;have BK189:=n5_;have HB:=n6_;clear n0_ n1_ n2_ n3_ n4_ n5_ n6_ hb ho37))
             go_ret2
             exact ⟨_,qz7,by (with_reducible repeat (first|apply Kd.R_alloc|apply Kd.R_drewN|apply Kd.R_drew));exact Kd.R_mono HO210.out (fun _ hk=>trivial),qz8⟩
            ·rw [if_neg c28] at H
             have c28b0:decide (40<(wrap64 ((x6_1.length:Int)+(y205.length:Int))))=false:=decide_eq_false c28
             clear c28
             have H':=Aside0.mk H
             clear H
             obtain ⟨Ao38,co38,eo38⟩:=Kd.V_slice HO_9.out
             subst eo38
             go_wp2_with (first|((with_reducible refine gate_dst (N:=33) rfl ?_);refine Kd.R_lit k46 _ 46 ?hg (N:=33) ?hd (xs:=([]:List (S46))) (inner:=[]) (ok:=fun _=>True) (okp:=fun _=>True) ?hr ?hp (fun _ hk=>hk) trivial (Below.refl _ _) (Nat.le_refl _) (by simp) ?_;(case hd=>rfl);(case hg=>rfl);(case hr=>first|(go_simp;done)|(go_simp;rfl));(case hp=>exact (Reps.none _ _));intro v200 w39 ho40 hb hg_ hnew_;clear hg_ hnew_;(first|rw [← Ny199.out] at ho40|(simp only [Int.reduceToNat] at ho40;rw [← Ny199.out] at ho40));have n0_:=Aside0.mk (Kd.R_elder' qz20 (Kd.R_base ho40) hb);have n1_:=Aside0.mk (Kd.Q_elder' qz23 (Kd.R_base ho40) hb);have n2_:=Aside0.mk (Kd.V_elder' qz41 (Kd.R_base ho40) hb);have n3_:=Aside0.mk (Kd.R_lower (Kd.R_newB (Kd.R_new' (Kd.R_new' ho40 (Kd.R_lt qz20)) (Kd.Q_lt qz23)) (g:=gb189) (o:=.cells #[.int .i64 ((rd_T46 x7_1 0).f0),.int .i64 ((rd_T46 x7_1 0).f1),.string ((rd_T46 x7_1 0).f2)] 46 (0,0)) qz11) (below_size qz8));have n4_:=Aside0.mk (blk_below (g:=gb189) (o:=.cells #[.int .i64 ((rd_T46 x7_1 0).f0),.int .i64 ((rd_T46 x7_1 0).f1),.string ((rd_T46 x7_1 0).f2)] 46 (0,0)) qz11 hb);have n5_:=Aside0.mk (below_step qz8 hb);clear HO_6 HO_7 HO_9 BK189 HB;have HO_6:=n0_;have HO_7:=n1_;have HO_9:=n2_;have HO201:=n3_;have BK189:=n4_;have HB:=n5_;clear n0_ n1_ n2_ n3_ n4_ n5_ hb ho40)|((with_reducible refine gate_builtin (b:=.append) (xs:=#[.tmp 33,.tmp 34]) rfl ?_);at_builtin;refine Kd.R_append_rows k46 (w0:=w) w.heap.size rfl (.tmp 33) (.tmp 34) 26 46 (.agg #[(.int .i64 0),(.int .i64 0),(.string ⟨#[]⟩)]) 32 rfl Tryd.underlying26 info46 rfl (by decide) (by omega) v200 y199 x9_11 _ _ _ (fun k_=>some k_≠(u6:Value).ownBlock∧some k_≠(.slice A17 y190.length c17:Value).ownBlock∧k_≠gb189) (fun _=>False) rfl rfl ?aO ?aR (fun _ _ h=>h) (fun _ h=>h.elim) ?aF ?aB ?aS ?aL ?_;(case aR=>exact qz80);(case aB=>exact qz8);(case aF=>exact (fun k_ hk=>⟨Kd.fresh' (Kd.R_lt qz20) k_ hk,Kd.fresh' (Kd.Q_lt qz23) k_ hk,Kd.freshB (g:=gb189) (o:=.cells #[.int .i64 ((rd_T46 x7_1 0).f0),.int .i64 ((rd_T46 x7_1 0).f1),.string ((rd_T46 x7_1 0).f2)] 46 (0,0)) qz11 k_ hk⟩));(case aO=>exact qz84);(case aS=>exact (below_size qz8));(case aL=>have:=LMc26.out;omega);intro v203 w41 ho hb hg hat;rw [← Ny202.out] at ho;have n0_:=Aside0.mk (Kd.R_after (ok:=(fun k_=>some k_≠(.slice A17 y190.length c17:Value).ownBlock∧k_≠gb189)) qz20 hg hat);have n1_:=Aside0.mk (Kd.Q_after (ok:=(fun k_=>some k_≠(u6:Value).ownBlock∧k_≠gb189)) qz23 hg hat);have n2_:=Aside0.mk (Kd.V_afterv (ok:=(fun k_=>some k_≠(u6:Value).ownBlock∧some k_≠(.slice A17 y190.length c17:Value).ownBlock∧k_≠gb189)) qz41 hg hat);have n3_:=Aside0.mk (blk_grown (g:=gb189) (o:=.cells #[.int .i64 ((rd_T46 x7_1 0).f0),.int .i64 ((rd_T46 x7_1 0).f1),.string ((rd_T46 x7_1 0).f2)] 46 (0,0)) qz11 hg (Kd.R_away HO201.out (fun _ hk=>hk.2)));have n4_:=Aside0.mk (hb);have n5_:=Aside0.mk (ho);clear HO_6 HO_7 HO_9 BK189 HB HO201;have HO_6:=n0_;have HO_7:=n1_;have HO_9:=n2_;have BK189:=n3_;have HB:=n4_;have HO204:=n5_;clear n0_ n1_ n2_ n3_ n4_ n5_ ho hb hg hat)|((with_reducible refine gate_builtin (b:=.append) (xs:=#[.tmp 35,.tmp 36]) rfl ?_);at_builtin;refine Kd.R_append_rows k46 (w0:=w) w.heap.size rfl (.tmp 35) (.tmp 36) 26 46 (.agg #[(.int .i64 0),(.int .i64 0),(.string ⟨#[]⟩)]) 32 rfl Tryd.underlying26 info46 rfl (by decide) (by omega) v203 y202 y190 _ _ _ (fun k_=>some k_≠(u6:Value).ownBlock∧some k_≠(.slice A17 y190.length c17:Value).ownBlock∧k_≠gb189) (fun _=>False) rfl rfl ?aO ?aR (fun _ _ h=>h) (fun _ h=>h.elim) ?aF ?aB ?aS ?aL ?_;(case aR=>exact qz82);(case aB=>exact qz8);(case aF=>exact (fun k_ hk=>⟨Kd.fresh' (Kd.R_lt qz20) k_ hk,Kd.fresh' (Kd.Q_lt qz23) k_ hk,Kd.freshB (g:=gb189) (o:=.cells #[.int .i64 ((rd_T46 x7_1 0).f0),.int .i64 ((rd_T46 x7_1 0).f1),.string ((rd_T46 x7_1 0).f2)] 46 (0,0)) qz11 k_ hk⟩));(case aO=>(with_reducible repeat (first|apply Kd.R_alloc|apply Kd.R_drewN|apply Kd.R_drew));exact HO204.out);(case aS=>exact (below_size qz8));(case aL=>have:=LMc27.out;omega);intro v206 w42 ho hb hg hat;rw [← Ny205.out] at ho;have n0_:=Aside0.mk (Kd.R_after (ok:=(fun k_=>some k_≠(.slice A17 y190.length c17:Value).ownBlock∧k_≠gb189)) qz20 hg hat);have n1_:=Aside0.mk (Kd.Q_after (ok:=(fun k_=>some k_≠(u6:Value).ownBlock∧k_≠gb189)) qz23 hg hat);have n2_:=Aside0.mk (Kd.V_afterv (ok:=(fun k_=>some k_≠(u6:Value).ownBlock∧some k_≠(.slice A17 y190.length c17:Value).ownBlock∧k_≠gb189)) qz41 hg hat);have n3_:=Aside0.mk (blk_grown (g:=gb189) (o:=.cells #[.int .i64 ((rd_T46 x7_1 0).f0),.int .i64 ((rd_T46 x7_1 0).f1),.string ((rd_T46 x7_1 0).f2)] 46 (0,0)) qz11 hg (Kd.R_away HO204.out (fun _ hk=>hk.2.2)));have n4_:=Aside0.mk (hb);have n5_:=Aside0.mk (ho);clear HO_6 HO_7 HO_9 BK189 HB HO204;have HO_6:=n0_;have HO_7:=n1_;have HO_9:=n2_;have BK189:=n3_;have HB:=n4_;have HO207:=n5_;clear n0_ n1_ n2_ n3_ n4_ n5_ ho hb hg hat;obtain ⟨Ao43,co43,eo43⟩:=Kd.R_slice HO_6.out;subst eo43;obtain ⟨Ao44,co44,eo44⟩:=Kd.R_slice HO207.out;subst eo44))
             go_roundg kj11
             case measure=>have:=HK1.out;have:=HJ11.out;omega
             case rel=>exact ⟨(x6_1),(y205),H',⟨by have:=HK1.out;have:=HJ11.out;omega⟩,⟨by (with_reducible repeat (first|apply Kd.R_alloc|apply Kd.R_drewN|apply Kd.R_drew));exact Kd.R_mono HO_6.out (fun _ hk=>hk.2)⟩,⟨Kd.Q_of_R (by (with_reducible repeat (first|apply Kd.R_alloc|apply Kd.R_drewN|apply Kd.R_drew));exact Kd.R_mono HO207.out (fun _ hk=>hk.1))⟩,⟨qz8⟩⟩
           ·rw [if_neg c27] at H
            exact absurd H (by simp)
          ·rw [if_neg c26] at H
           exact absurd H (by simp)
         ·rw [if_neg c25] at H
          have c25b0:decide (0<(x9_11.length:Int))=false:=decide_eq_false c25
          have c25b1:decide (0<x9_11.length)=false:=decide_eq_false (by omega)
          clear c25
          by_cases c45:x6_1.length<4398046511104
          ·rw [if_pos c45] at H
           have LMc45:=Aside0.mk c45
           clear c45
           obtain ⟨y211,hy211⟩:∃ y_:List (S46),y_=(x6_1++[(⟨((rd_T46 x7_1 0).f0),((rd_T46 x7_1 0).f1),((rd_T46 x7_1 0).f2)⟩:S46)]):=⟨_,rfl⟩
           replace H:(if (wrap64 ((y211.length:Int)+(y190.length:Int))) > 40 then (some ((([]:List (S46))),false)) else (spec_l2Full.l0 kj11 l0 y211 y190))=some (r1,r2):=by first|(rw [hy211];with_reducible exact H)|(have H2_:=(Option.bind_some _ _).symm.trans H;rw [hy211];with_reducible exact H2_)|(have H2_:=(Option.bind_some _ _).symm.trans H;with_reducible exact H2_)|with_reducible exact H|(rw [hy211];exact H)|exact H
           have Ny211:=Aside0.mk hy211
           clear hy211
           by_cases c46:(wrap64 ((y211.length:Int)+(y190.length:Int))) > 40
           ·rw [if_pos c46] at H
            have c46b0:decide (40<(wrap64 ((y211.length:Int)+(y190.length:Int))))=true:=decide_eq_true c46
            clear c46
            obtain ⟨y214,hy214⟩:∃ y_:List (S46),y_=(([]:List (S46))):=⟨_,rfl⟩
            replace H:(some (y214,false))=some (r1,r2):=by first|(rw [hy214];with_reducible exact H)|(have H2_:=(Option.bind_some _ _).symm.trans H;rw [hy214];with_reducible exact H2_)|(have H2_:=(Option.bind_some _ _).symm.trans H;with_reducible exact H2_)|with_reducible exact H|(rw [hy214];exact H)|exact H
            have Ny214:=Aside0.mk hy214
            clear hy214
            simp only [Option.some.injEq,Prod.mk.injEq] at H
            obtain ⟨rfl,rfl⟩:=H
            obtain ⟨Ao47,co47,eo47⟩:=Kd.V_slice HO_9.out
            subst eo47
            have hcz48_0:wc.cell? ⟨gb189,0,none⟩=some (.int .i64 ((rd_T46 x7_1 0).f0)):=(blk_cell BK189.out 0).trans rfl
            have hcz48_1:wc.cell? ⟨gb189,1,none⟩=some (.int .i64 ((rd_T46 x7_1 0).f1)):=(blk_cell BK189.out 1).trans rfl
            have hcz48_2:wc.cell? ⟨gb189,2,none⟩=some (.string ((rd_T46 x7_1 0).f2)):=(blk_cell BK189.out 2).trans rfl
            have hfz48_0:=blk_frozen BK189.out 0
            have hfz48_1:=blk_frozen BK189.out 1
            have hfz48_2:=blk_frozen BK189.out 2
            go_wp2_with (first|((with_reducible refine gate_builtin (b:=.append) (xs:=#[.tmp 38,.tmp 40]) rfl ?_);at_builtin;refine Kd.R_append k46 (w0:=w) w.heap.size rfl (.tmp 38) (.tmp 40) 26 46 (.agg #[(.int .i64 0),(.int .i64 0),(.string ⟨#[]⟩)]) 32 rfl Tryd.underlying26 info46 rfl (by decide) (by omega) u6 x6_1 (⟨((rd_T46 x7_1 0).f0),((rd_T46 x7_1 0).f1),((rd_T46 x7_1 0).f2)⟩:S46) [.int .i64 ((rd_T46 x7_1 0).f0),.int .i64 ((rd_T46 x7_1 0).f1),.string ((rd_T46 x7_1 0).f2)] (fun k_=>some k_≠(.slice A17 y190.length c17:Value).ownBlock∧k_≠gb189) (fun _=>False) rfl rfl ?aP (fun _ hk=>hk.elim) ?aF ?aO ?aB ?aS ?aL ?_;(case aP=>exact k46_mkM _ _ _ (⟨((rd_T46 x7_1 0).f0),((rd_T46 x7_1 0).f1),((rd_T46 x7_1 0).f2)⟩:S46));(case aB=>exact qz8);(case aF=>exact (fun k_ hk=>⟨Kd.fresh' (Kd.Q_lt qz23) k_ hk,Kd.freshB (g:=gb189) (o:=.cells #[.int .i64 ((rd_T46 x7_1 0).f0),.int .i64 ((rd_T46 x7_1 0).f1),.string ((rd_T46 x7_1 0).f2)] 46 (0,0)) qz11 k_ hk⟩));(case aO=>exact qz20);(case aS=>exact (below_size qz8));(case aL=>have:=LMc45.out;omega);intro v212 w49 ho hb hg hat;rw [← Ny211.out] at ho;have n0_:=Aside0.mk (Kd.Q_after (ok:=(fun k_=>k_≠gb189)) qz88 hg hat);have n1_:=Aside0.mk (Kd.V_afterv (ok:=(fun k_=>some k_≠(.slice A17 y190.length c17:Value).ownBlock∧k_≠gb189)) qz85 hg hat);have n2_:=Aside0.mk (blk_grown (g:=gb189) (o:=.cells #[.int .i64 ((rd_T46 x7_1 0).f0),.int .i64 ((rd_T46 x7_1 0).f1),.string ((rd_T46 x7_1 0).f2)] 46 (0,0)) qz11 hg (Kd.R_away HO_6.out (fun _ hk=>hk.2)));have n3_:=Aside0.mk (hb);have n4_:=Aside0.mk (ho);clear HO_7 HO_9 BK189 HB HO_6;have HO_7:=n0_;have HO_9:=n1_;have BK189:=n2_;have HB:=n3_;have HO213:=n4_;clear n0_ n1_ n2_ n3_ n4_ ho hb hg hat;obtain ⟨Ao50,co50,eo50⟩:=Kd.R_slice HO213.out;subst eo50)|((with_reducible refine gate_dst (N:=48) rfl ?_);refine Kd.R_lit k46 _ 46 ?hg (N:=48) ?hd (xs:=([]:List (S46))) (inner:=[]) (ok:=fun _=>True) (okp:=fun _=>True) ?hr ?hp (fun _ hk=>hk) trivial (Below.refl _ _) (Nat.le_refl _) (by simp) ?_;(case hd=>rfl);(case hg=>rfl);(case hr=>first|(go_simp;done)|(go_simp;rfl));(case hp=>exact (Reps.none _ _));intro v215 w51 ho52 hb hg_ hnew_;clear hg_ hnew_;(first|rw [← Ny214.out] at ho52|(simp only [Int.reduceToNat] at ho52;rw [← Ny214.out] at ho52));have n0_:=Aside0.mk (Kd.Q_elder' qz23 (Kd.R_base ho52) hb);have n1_:=Aside0.mk (Kd.V_elder' qz41 (Kd.R_base ho52) hb);have n2_:=Aside0.mk (Kd.R_elder' (by (with_reducible repeat (first|apply Kd.R_alloc|apply Kd.R_drewN|apply Kd.R_drew));exact HO213.out) (Kd.R_base ho52) hb);have n3_:=Aside0.mk (Kd.R_lower (Kd.R_newB (Kd.R_new' (Kd.R_new' ho52 (Kd.Q_lt qz23)) (Kd.R_lt (by (with_reducible repeat (first|apply Kd.R_alloc|apply Kd.R_drewN|apply Kd.R_drew));exact HO213.out))) (g:=gb189) (o:=.cells #[.int .i64 ((rd_T46 x7_1 0).f0),.int .i64 ((rd_T46 x7_1 0).f1),.string ((rd_T46 x7_1 0).f2)] 46 (0,0)) qz11) (below_size qz8));have n4_:=Aside0.mk (blk_below (g:=gb189) (o:=.cells #[.int .i64 ((rd_T46 x7_1 0).f0),.int .i64 ((rd_T46 x7_1 0).f1),.string ((rd_T46 x7_1 0).f2)] 46 (0,0)) qz11 hb);have n5_:=Aside0.mk (below_step qz8 hb);clear HO_7 HO_9 HO213 BK189 HB;have HO_7:=n0_;have HO_9:=n1_;have HO213:=n2_;have HO216:=n3_;have BK189:=n4_;have HB:=n5_;clear n0_ n1_ n2_ n3_ n4_ n5_ hb ho52))
            go_ret2
            exact ⟨_,qz7,by (with_reducible repeat (first|apply Kd.R_alloc|apply Kd.R_drewN|apply Kd.R_drew));exact Kd.R_mono HO216.out (fun _ hk=>trivial),qz8⟩
           ·rw [if_neg c46] at H
            have c46b0:decide (40<(wrap64 ((y211.length:Int)+(y190.length:Int))))=false:=decide_eq_false c46
            clear c46
            have H':=Aside0.mk H
            clear H
            obtain ⟨Ao53,co53,eo53⟩:=Kd.V_slice HO_9.out
            subst eo53
            have hcz54_0:wc.cell? ⟨gb189,0,none⟩=some (.int .i64 ((rd_T46 x7_1 0).f0)):=(blk_cell BK189.out 0).trans rfl
            have hcz54_1:wc.cell? ⟨gb189,1,none⟩=some (.int .i64 ((rd_T46 x7_1 0).f1)):=(blk_cell BK189.out 1).trans rfl
            have hcz54_2:wc.cell? ⟨gb189,2,none⟩=some (.string ((rd_T46 x7_1 0).f2)):=(blk_cell BK189.out 2).trans rfl
            have hfz54_0:=blk_frozen BK189.out 0
            have hfz54_1:=blk_frozen BK189.out 1
            have hfz54_2:=blk_frozen BK189.out 2
            go_wp2_with (first|((with_reducible refine gate_builtin (b:=.append) (xs:=#[.tmp 38,.tmp 40]) rfl ?_);at_builtin;refine Kd.R_append k46 (w0:=w) w.heap.size rfl (.tmp 38) (.tmp 40) 26 46 (.agg #[(.int .i64 0),(.int .i64 0),(.string ⟨#[]⟩)]) 32 rfl Tryd.underlying26 info46 rfl (by decide) (by omega) u6 x6_1 (⟨((rd_T46 x7_1 0).f0),((rd_T46 x7_1 0).f1),((rd_T46 x7_1 0).f2)⟩:S46) [.int .i64 ((rd_T46 x7_1 0).f0),.int .i64 ((rd_T46 x7_1 0).f1),.string ((rd_T46 x7_1 0).f2)] (fun k_=>some k_≠(.slice A17 y190.length c17:Value).ownBlock∧k_≠gb189) (fun _=>False) rfl rfl ?aP (fun _ hk=>hk.elim) ?aF ?aO ?aB ?aS ?aL ?_;(case aP=>exact k46_mkM _ _ _ (⟨((rd_T46 x7_1 0).f0),((rd_T46 x7_1 0).f1),((rd_T46 x7_1 0).f2)⟩:S46));(case aB=>exact qz8);(case aF=>exact (fun k_ hk=>⟨Kd.fresh' (Kd.Q_lt qz23) k_ hk,Kd.freshB (g:=gb189) (o:=.cells #[.int .i64 ((rd_T46 x7_1 0).f0),.int .i64 ((rd_T46 x7_1 0).f1),.string ((rd_T46 x7_1 0).f2)] 46 (0,0)) qz11 k_ hk⟩));(case aO=>exact qz20);(case aS=>exact (below_size qz8));(case aL=>have:=LMc45.out;omega);intro v212 w55 ho hb hg hat;rw [← Ny211.out] at ho;have n0_:=Aside0.mk (Kd.Q_after (ok:=(fun k_=>k_≠gb189)) qz88 hg hat);have n1_:=Aside0.mk (Kd.V_afterv (ok:=(fun k_=>some k_≠(.slice A17 y190.length c17:Value).ownBlock∧k_≠gb189)) qz85 hg hat);have n2_:=Aside0.mk (blk_grown (g:=gb189) (o:=.cells #[.int .i64 ((rd_T46 x7_1 0).f0),.int .i64 ((rd_T46 x7_1 0).f1),.string ((rd_T46 x7_1 0).f2)] 46 (0,0)) qz11 hg (Kd.R_away HO_6.out (fun _ hk=>hk.2)));have n3_:=Aside0.mk (hb);have n4_:=Aside0.mk (ho);clear HO_7 HO_9 BK189 HB HO_6;have HO_7:=n0_;have HO_9:=n1_;have BK189:=n2_;have HB:=n3_;have HO213:=n4_;clear n0_ n1_ n2_ n3_ n4_ ho hb hg hat;obtain ⟨Ao56,co56,eo56⟩:=Kd.R_slice HO213.out;subst eo56))
            go_roundg kj11
            case measure=>have:=HK1.out;have:=HJ11.out;omega
            case rel=>exact ⟨(y211),(y190),H',⟨by have:=HK1.out;have:=HJ11.out;omega⟩,⟨by (with_reducible repeat (first|apply Kd.R_alloc|apply Kd.R_drewN|apply Kd.R_drew));exact Kd.R_mono HO213.out (fun _ hk=>hk.1)⟩,⟨by (with_reducible repeat (first|apply Kd.Q_alloc|apply Kd.Q_drewN|apply Kd.Q_drew));exact Kd.Q_mono HO_7.out (fun _ hk=>hk.2)⟩,⟨qz8⟩⟩
          ·rw [if_neg c45] at H
           exact absurd H (by simp)
      ·rw [if_neg c11] at H
       exact absurd H (by simp)
     ·rw [if_neg c10] at H
      exact absurd H (by simp)
    ·rw [if_neg c9] at H
     have c9b0:decide (0<(x7_1.length:Int))=false:=decide_eq_false c9
     have c9b1:decide (0<x7_1.length)=false:=decide_eq_false (by omega)
     clear c9
     simp only [Option.some.injEq,Prod.mk.injEq] at H
     obtain ⟨rfl,rfl⟩:=H
     obtain ⟨Ao57,co57,eo57,_⟩:=Kd.Q_slice HO_7.out
     subst eo57
     go_wp2
     go_ret2
     exact ⟨_,qz7,by (with_reducible repeat (first|apply Kd.R_alloc|apply Kd.R_drewN|apply Kd.R_drew));exact Kd.R_mono HO_6.out (fun _ hk=>trivial),qz5⟩
 ·rw [if_neg c3] at H
  exact absurd H (by simp)

/-! ### spec_SubFull: function 34 -/
def spec_SubFull.f (k:Nat) (l0:List (S30)) (l1:List (S46)):Option ((List (S46)) × Bool):=(spec_SubOk.f k l0).bind fun t217=>(if t217=true then ((spec_TrmOk.f k l1).bind fun t218=>(if t218=true then ((spec_l2Full.f k l0 l1).bind fun bt219=>(some (bt219.1,bt219.2))) else (some ((([]:List (S46))),false)))) else (some ((([]:List (S46))),false)))
set_option maxHeartbeats 8000000 in
set_option maxRecDepth 100000 in
theorem spec_SubFull.calls (k:Nat) (A0:Option Addr) (c0:Nat) (l0:List (S30)) (A1:Option Addr) (c1:Nat) (l1:List (S46)) (r1:List (S46)) (r2:Bool) (w:World) (hr0:Kd.C k30 w A0 l0.length l0) (hc0:l0.length≤c0) (hr1:Kd.C k46 w A1 l1.length l1) (hc1:l1.length≤c1) (h:spec_SubFull.f k l0 l1=some (r1,r2)) :
  Calls Tryd.prog 34 #[.slice A0 l0.length c0,.slice A1 l1.length c1] w fun e w'=>∃ v0_:Value,e = .returned (.tuple #[v0_,.bool r2])∧Kd.R k46 46 w' w.heap.size (fun _=>True) v0_ r1∧Below w.heap.size w w':=by
 have HR0:=Aside0.mk hr0
 have HC0:=Aside0.mk hc0
 clear hr0 hc0
 have HR1:=Aside0.mk hr1
 have HC1:=Aside0.mk hc1
 clear hr1 hc1
 have HB:=Aside0.mk (Below.refl w.heap.size w)
 have H:((spec_SubOk.f k l0).bind fun t217=>(if t217=true then ((spec_TrmOk.f k l1).bind fun t218=>(if t218=true then ((spec_l2Full.f k l0 l1).bind fun bt219=>(some (bt219.1,bt219.2))) else (some ((([]:List (S46))),false)))) else (some ((([]:List (S46))),false))))=some (r1,r2):=h
 clear h
 replace H:=Option.bind_eq_some_iff.mp H
 obtain ⟨t217,A30,H⟩:=H
 replace H:(if t217=true then ((spec_TrmOk.f k l1).bind fun t218=>(if t218=true then ((spec_l2Full.f k l0 l1).bind fun bt219=>(some (bt219.1,bt219.2))) else (some ((([]:List (S46))),false)))) else (some ((([]:List (S46))),false)))=some (r1,r2):=H
 have A3:=Aside0.mk A30
 clear A30
 by_cases c4:t217=true
 ·subst c4
  have H1:((spec_TrmOk.f k l1).bind fun t218=>(if t218=true then ((spec_l2Full.f k l0 l1).bind fun bt219=>(some (bt219.1,bt219.2))) else (some ((([]:List (S46))),false))))=some (r1,r2):=qz34
  clear H
  have H:=H1
  clear H1
  replace H:=Option.bind_eq_some_iff.mp H
  obtain ⟨t218,A50,H⟩:=H
  replace H:(if t218=true then ((spec_l2Full.f k l0 l1).bind fun bt219=>(some (bt219.1,bt219.2))) else (some ((([]:List (S46))),false)))=some (r1,r2):=H
  have A5:=Aside0.mk A50
  clear A50
  by_cases c6:t218=true
  ·subst c6
   have H1:((spec_l2Full.f k l0 l1).bind fun bt219=>(some (bt219.1,bt219.2)))=some (r1,r2):=qz34
   clear H
   have H:=H1
   clear H1
   replace H:=Option.bind_eq_some_iff.mp H
   obtain ⟨⟨t219,t220⟩,A70,H⟩:=H
   replace H:(some (t219,t220))=some (r1,r2):=H
   have A7:=Aside0.mk A70
   clear A70
   simp only [Option.some.injEq,Prod.mk.injEq] at H
   obtain ⟨rfl,rfl⟩:=H
   go_enter Tryd.func34,Tryd.ntmps34
   go_wp2_with (first|((with_reducible refine gate_callee (f:=24) rfl ?_);refine goesL_ (some 7) rfl rfl Tryd.func24 (by kernel_rfl) rfl #[.slice A0 l0.length c0] rfl qz14 ?_;(with_reducible refine (spec_SubOk.calls k _ _ l0 true _ ?side1 ?side2 A3.out).mono ?_);(case side1=>exact qz28);(case side2=>exact HC0.out);rintro e w8 ⟨rfl,hb⟩;refine ⟨_,rfl,?_⟩;have n0_:=Aside0.mk (below_step qz4 hb);clear HB;have HB:=n0_;clear n0_;(try clear hb);(try clear hb2);(try clear hk);(try clear hi))|(go_at_call 30;(with_reducible refine (spec_TrmOk.calls k _ _ l1 true _ ?side1 ?side2 A5.out).mono ?_);(case side1=>exact qz29);(case side2=>exact HC1.out);rintro e w9 ⟨rfl,hb⟩;have n0_:=Aside0.mk (below_step qz4 hb);clear HB;have HB:=n0_;clear n0_;(try clear hb);(try clear hb2);(try clear hk);(try clear hi))|((with_reducible refine gate_callee (f:=73) rfl ?_);refine goesL_ (some 17) rfl rfl Tryd.func73 (by kernel_rfl) rfl #[.slice A0 l0.length c0,.slice A1 l1.length c1] rfl qz14 ?_;(with_reducible refine (spec_l2Full.calls k _ _ l0 _ _ l1 t219 t220 _ ?side1 ?side2 ?side3 ?side4 A7.out).mono ?_);(case side1=>exact qz36);(case side2=>exact HC0.out);(case side3=>exact qz29);(case side4=>exact HC1.out);rintro e w10 ⟨v221,rfl,ho0,hb⟩;refine ⟨_,rfl,?_⟩;have n0_:=Aside0.mk (Kd.R_lower ho0 (below_size qz4));have n1_:=Aside0.mk (below_step qz4 hb);clear HB;have HO222:=n0_;have HB:=n1_;clear n0_ n1_;(try clear hb);(try clear hb2);(try clear hk);(try clear hi);(try clear ho0)))
   go_ret2
   exact ⟨_,qz7,by (with_reducible repeat (first|apply Kd.R_alloc|apply Kd.R_drewN|apply Kd.R_drew));exact HO222.out,qz5⟩
  ·replace c6:=Bool.eq_false_iff.mpr c6
   subst c6
   have H1:(some ((([]:List (S46))),false))=some (r1,r2):=qz21
   clear H
   have H:=H1
   clear H1
   obtain ⟨y223,hy223⟩:∃ y_:List (S46),y_=(([]:List (S46))):=⟨_,rfl⟩
   replace H:(some (y223,false))=some (r1,r2):=by first|(rw [hy223];with_reducible exact H)|(have H2_:=(Option.bind_some _ _).symm.trans H;rw [hy223];with_reducible exact H2_)|(have H2_:=(Option.bind_some _ _).symm.trans H;with_reducible exact H2_)|with_reducible exact H|(rw [hy223];exact H)|exact H
   have Ny223:=Aside0.mk hy223
   clear hy223
   simp only [Option.some.injEq,Prod.mk.injEq] at H
   obtain ⟨rfl,rfl⟩:=H
   go_enter Tryd.func34,Tryd.ntmps34
   go_wp2_with (first|((with_reducible refine gate_callee (f:=24) rfl ?_);refine goesL_ (some 7) rfl rfl Tryd.func24 (by kernel_rfl) rfl #[.slice A0 l0.length c0] rfl qz14 ?_;(with_reducible refine (spec_SubOk.calls k _ _ l0 true _ ?side1 ?side2 A3.out).mono ?_);(case side1=>exact qz28);(case side2=>exact HC0.out);rintro e w11 ⟨rfl,hb⟩;refine ⟨_,rfl,?_⟩;have n0_:=Aside0.mk (below_step qz4 hb);clear HB;have HB:=n0_;clear n0_;(try clear hb);(try clear hb2);(try clear hk);(try clear hi))|(go_at_call 30;(with_reducible refine (spec_TrmOk.calls k _ _ l1 false _ ?side1 ?side2 A5.out).mono ?_);(case side1=>exact qz29);(case side2=>exact HC1.out);rintro e w12 ⟨rfl,hb⟩;have n0_:=Aside0.mk (below_step qz4 hb);clear HB;have HB:=n0_;clear n0_;(try clear hb);(try clear hb2);(try clear hk);(try clear hi))|((with_reducible refine gate_dst (N:=14) rfl ?_);refine Kd.R_lit k46 _ 46 ?hg (N:=14) ?hd (xs:=([]:List (S46))) (inner:=[]) (ok:=fun _=>True) (okp:=fun _=>True) ?hr ?hp (fun _ hk=>hk) trivial (Below.refl _ _) (Nat.le_refl _) (by simp) ?_;(case hd=>rfl);(case hg=>rfl);(case hr=>first|(go_simp;done)|(go_simp;rfl));(case hp=>exact (Reps.none _ _));intro v224 w13 ho14 hb hg_ hnew_;clear hg_ hnew_;(first|rw [← Ny223.out] at ho14|(simp only [Int.reduceToNat] at ho14;rw [← Ny223.out] at ho14));have n0_:=Aside0.mk (Kd.R_lower ho14 (below_size qz4));have n1_:=Aside0.mk (below_step qz4 hb);clear HB;have HO225:=n0_;have HB:=n1_;clear n0_ n1_ hb ho14))
   go_ret2
   exact ⟨_,qz7,by (with_reducible repeat (first|apply Kd.R_alloc|apply Kd.R_drewN|apply Kd.R_drew));exact HO225.out,qz5⟩
 ·replace c4:=Bool.eq_false_iff.mpr c4
  subst c4
  have H1:(some ((([]:List (S46))),false))=some (r1,r2):=qz21
  clear H
  have H:=H1
  clear H1
  obtain ⟨y226,hy226⟩:∃ y_:List (S46),y_=(([]:List (S46))):=⟨_,rfl⟩
  replace H:(some (y226,false))=some (r1,r2):=by first|(rw [hy226];with_reducible exact H)|(have H2_:=(Option.bind_some _ _).symm.trans H;rw [hy226];with_reducible exact H2_)|(have H2_:=(Option.bind_some _ _).symm.trans H;with_reducible exact H2_)|with_reducible exact H|(rw [hy226];exact H)|exact H
  have Ny226:=Aside0.mk hy226
  clear hy226
  simp only [Option.some.injEq,Prod.mk.injEq] at H
  obtain ⟨rfl,rfl⟩:=H
  go_enter Tryd.func34,Tryd.ntmps34
  go_wp2_with (first|((with_reducible refine gate_callee (f:=24) rfl ?_);refine goesL_ (some 7) rfl rfl Tryd.func24 (by kernel_rfl) rfl #[.slice A0 l0.length c0] rfl qz14 ?_;(with_reducible refine (spec_SubOk.calls k _ _ l0 false _ ?side1 ?side2 A3.out).mono ?_);(case side1=>exact qz28);(case side2=>exact HC0.out);rintro e w15 ⟨rfl,hb⟩;refine ⟨_,rfl,?_⟩;have n0_:=Aside0.mk (below_step qz4 hb);clear HB;have HB:=n0_;clear n0_;(try clear hb);(try clear hb2);(try clear hk);(try clear hi))|((with_reducible refine gate_dst (N:=14) rfl ?_);refine Kd.R_lit k46 _ 46 ?hg (N:=14) ?hd (xs:=([]:List (S46))) (inner:=[]) (ok:=fun _=>True) (okp:=fun _=>True) ?hr ?hp (fun _ hk=>hk) trivial (Below.refl _ _) (Nat.le_refl _) (by simp) ?_;(case hd=>rfl);(case hg=>rfl);(case hr=>first|(go_simp;done)|(go_simp;rfl));(case hp=>exact (Reps.none _ _));intro v227 w16 ho17 hb hg_ hnew_;clear hg_ hnew_;(first|rw [← Ny226.out] at ho17|(simp only [Int.reduceToNat] at ho17;rw [← Ny226.out] at ho17));have n0_:=Aside0.mk (Kd.R_lower ho17 (below_size qz4));have n1_:=Aside0.mk (below_step qz4 hb);clear HB;have HO228:=n0_;have HB:=n1_;clear n0_ n1_ hb ho17))
  go_ret2
  exact ⟨_,qz7,by (with_reducible repeat (first|apply Kd.R_alloc|apply Kd.R_drewN|apply Kd.R_drew));exact HO228.out,qz5⟩

/-! ### slices_ContainsFunc_SubBind: function 62 -/
/-- whether p says yes at one -/
def anyS {σ:Type} (p:σ→Cat.Bind→Option (Bool × σ)):σ→List Cat.Bind→Option (Bool × σ)
 | s,[]=>some (false,s)
 | s,x :: l=>(p s x).bind fun r=>if r.1=true then some (true,r.2) else anyS p r.2 l
theorem firstS_any {σ:Type} (p:σ→Cat.Bind→Option (Bool × σ)):∀ (l:List Cat.Bind) (s s':σ) (i:Nat) (b:Bool),anyS p s l=some (b,s')→∃ r,firstS p s l i=some (r,s')∧decide (r≥0)=b
 | [],s,s',i,b,h=>by
  obtain ⟨rfl,rfl⟩:=Prod.mk.inj (Option.some.inj h)
  exact ⟨-1,rfl,rfl⟩
 | x :: l,s,s',i,b,h=>by
  rw [anyS] at h
  rw [firstS]
  cases e:p s x with
  | none=>rw [e] at h;cases h
  | some r=>
   rw [e] at h
   simp only [Option.bind_some] at h ⊢
   by_cases hr:r.1=true
   ·rw [if_pos hr] at h
    obtain ⟨rfl,rfl⟩:=Prod.mk.inj (Option.some.inj h)
    exact ⟨(i:Int),by rw [if_pos hr],by simp⟩
   ·rw [if_neg hr] at h
    obtain ⟨q,h1,h2⟩:=firstS_any p l _ _ (i+1) _ h
    exact ⟨q,by rw [if_neg hr];exact h1,h2⟩
set_option maxHeartbeats 4000000 in
set_option maxRecDepth 100000 in
theorem containsFunc_binds {σ:Type} (g:Nat) (lb:Array Value) (row:Option Nat) (p:σ→Cat.Bind→Option (Bool × σ)) (J:σ→World→Prop) (eg:∀ args w,(callFunc g args).run Tryd.prog w = .ok (.enter g args) w)
  (A0:Option Addr) (c0:Nat) (l0:List (S30)) (w:World) (hr0:∀ W,w.grownBy W row→Kd.C k30 W A0 l0.length l0) (hp:PredB g lb row p J w) (s0 s1:σ) (b:Bool) (h:anyS p s0 l0=some (b,s1)) (hJ:J s0 w) :
  Calls Tryd.prog 62 #[.slice A0 l0.length c0,.func (.func g) #[] lb] w fun e w'=>e = .returned (.bool b)∧J s1 w'∧w.grownBy w' row:=by
 obtain ⟨r,h1,h2⟩:=firstS_any p l0 s0 s1 0 b h
 have H:=Aside0.mk (indexFunc_binds g lb row p J eg A0 c0 l0 w hr0 hp s0 s1 r h1 hJ)
 have HA:=Aside0.mk h2
 clear hr0 hp h hJ h1 h2
 go_enter Tryd.func62,Tryd.ntmps62
 go_wp2_with (go_at_call 53;refine H.out.mono ?_;rintro e w' ⟨rfl,hj,hb⟩;have HJ:=Aside0.mk hj;have HB:=Aside0.mk hb;clear hj hb)
 go_ret
 exact ⟨by rw [← HA.out];rfl,HJ.out,HB.out⟩

end Go.Proofs.YtlaicnoikeieeaaDoor.P
