/- Contracts of functions of the program: each as a Lean function, and that its call does what that says; printed by cprint.py (this session) over print.py of the kit. Conditions: the hypotheses of each theorem. -/
import Derived.Test.YtlaicnoikeieeaaDoorVZ
import Derived.Test.YtlaicnoikeieeaaDoorP0
import Derived.Test.YtlaicnoikeieeaaDoorP2
import Derived.Test.YtlaicnoikeieeaaDoorP4
import Derived.Test.YtlaicnoikeieeaaDoorP5
import Derived.Test.YtlaicnoikeieeaaDoorP6
import Derived.Test.YtlaicnoikeieeaaDoorP7
namespace Go.Proofs.YtlaicnoikeieeaaDoor.P
open Go.RowKit Go.Proofs.YtlaicnoikeieeaaDoorW.PrintWords Go.Proofs.YtlaicnoikeieeaaDoorW.PrintLast Go.Proofs.YtlaicnoikeieeaaDoorW.PrintMore
attribute [local go_sem] max2_int min2_int max_two min_two max_three min_three max_four min_four   -- for this text's walks alone
set_option linter.unusedVariables false
set_option linter.unusedSimpArgs false
def impl_copiedBinds.l0:Nat→List (S30)→List (S30)→Int→Int→Option ((List (S30)))
 | 0,_,_,_,_=>none
 | k+1,x3,x6,x7,x8=>if x8<x7 then (if 0≤x8 then (if x8<(x6.length:Int) then ((slices_Clone_TrmCell.f ((rd_T30 x6 x8).f1)).bind fun t158=>(if x3.length<4398046511104 then (impl_copiedBinds.l0 k (x3++[(⟨(rd_T30 x6 x8).f0,t158⟩:S30)]) x6 x7 (wrap64 (x8+1))) else (none))) else (none)) else (none)) else (some x3)
def impl_copiedBinds.f (k:Nat) (l0:List (S30)):Option ((List (S30))):=impl_copiedBinds.l0 k ([]:List (S30)) l0 (l0.length:Int) 0
def impl_copiedBinds.T5:Bool × List (List Nat × List Nat):=(true,[([],[]),([],[]),([1],[1]),([],[]),([3],[3]),([4],[4]),([2,5],[2,5]),([6],[6]),([0,7,5],[0,7]),([8,8,0,1,2,3,4,5,6,7,8],[0,8])])
def impl_copiedBinds.B5:List Nat:=[0,0,2,0,8,24,62,126,255,511]
theorem impl_copiedBinds.tab5:rtab .any (opsOf Tryd.f70 5)=impl_copiedBinds.T5:=by kernel_rfl
theorem impl_copiedBinds.bits5:waitsOk impl_copiedBinds.T5.2 impl_copiedBinds.B5=true:=by kernel_rfl
set_option maxHeartbeats 8000000 in
set_option maxRecDepth 100000 in
theorem impl_copiedBinds.calls (k:Nat) (A0:Option Addr) (c0:Nat) (l0:List (S30)) (r:List (S30)) (w:World) (hr0:Kd.C k30 w A0 l0.length l0) (hc0:l0.length≤c0) (h:impl_copiedBinds.f k l0=some r) :
  Calls Tryd.prog 70 #[.slice A0 l0.length c0] w fun e w'=>∃ v0_:Value,e = .returned (v0_)∧Kd.S k30 30 w' w.heap.size (fun _=>True) v0_ r∧Below w.heap.size w w':=by
 have hu30:=Tryd.underlying30
 have HR0:=Aside0.mk hr0
 have HC0:=Aside0.mk hc0
 clear hr0 hc0
 have HB:=Aside0.mk (Below.refl w.heap.size w)
 have H:(impl_copiedBinds.l0 k ([]:List (S30)) l0 (l0.length:Int) 0)=some r:=h
 clear h
 have H':=Aside0.mk H
 clear H
 go_enter Tryd.func70,Tryd.ntmps70
 go_wp2
 go_loopg [3,8] k (fun kq v3 v8 w'=>∃ (x3_1:List (S30)) (x8_1:Int),v8 = .int .i64 x8_1∧Aside0 (impl_copiedBinds.l0 kq x3_1 l0 (l0.length:Int) x8_1=some r)∧Aside0 (kq≤k)∧Aside0 (Kd.S k30 30 w' w.heap.size (fun _=>True) v3 x3_1)∧Aside0 (Below w.heap.size w w'))
 case atStart=>exact ⟨(([]:List (S30))),(0),qz9,H',⟨Nat.le_refl _⟩,⟨qz110⟩,⟨qz5⟩⟩
 case round=>
  clear H'
  obtain ⟨x3_1,x8_1,rfl,HA,HK1,HO_3,HB⟩:=hrel
  cases gk with
  | zero=>exact absurd HA.out (by simp [impl_copiedBinds.l0])
  | succ k1=>
   have H:=HA.out
   clear HA
   simp only [impl_copiedBinds.l0] at H
   by_cases c2:x8_1<(l0.length:Int)
   ·rw [if_pos c2] at H
    have c2b0:decide (x8_1<(l0.length:Int))=true:=decide_eq_true c2
    clear c2
    by_cases c3:0≤x8_1
    ·rw [if_pos c3] at H
     have c3b0:decide (0≤x8_1)=true:=decide_eq_true c3
     clear c3
     by_cases c4:x8_1<(l0.length:Int)
     ·rw [if_pos c4] at H
      have c4b0:decide (x8_1<(l0.length:Int))=true:=decide_eq_true c4
      clear c4
      replace H:=Option.bind_eq_some_iff.mp H
      obtain ⟨t158,A50,H⟩:=H
      try dsimp only at H
      have A5:=Aside0.mk A50
      clear A50
      by_cases c6:x3_1.length<4398046511104
      ·rw [if_pos c6] at H
       have LMc6:=Aside0.mk c6
       clear c6
       obtain ⟨y161,hy161⟩:∃ y_:List (S30),y_=(x3_1++[(⟨(rd_T30 l0 x8_1).f0,t158⟩:S30)]):=⟨_,rfl⟩
       replace H:(impl_copiedBinds.l0 k1 y161 l0 (l0.length:Int) (wrap64 (x8_1+1)))=some r:=by first|(rw [hy161];exact H)|exact H
       have Ny161:=Aside0.mk hy161
       clear hy161
       have H':=Aside0.mk H
       clear H
       have p156:0≤(x8_1:Int):=of_decide_eq_true qz6
       have q156:x8_1<(l0.length:Int):=of_decide_eq_true qz6
       obtain ⟨ad156,A156_1,c156_1,e156,hx156_0,hx156_1,hl156_1,hi156_1⟩:=at_T30 HR0.out x8_1 p156 q156
       cases e156
       replace hx156_0:=(HB.out.cell (World.block_lt_of_cell? w _ hx156_0)).trans hx156_0
       replace hx156_1:=(HB.out.cell (World.block_lt_of_cell? w _ hx156_1)).trans hx156_1
       have HR156_1:=Aside0.mk hi156_1
       have HC156_1:=Aside0.mk hl156_1
       clear hi156_1 hl156_1
       replace p156:=eq_true p156
       replace q156:=eq_true q156
       try go_wp2_with (first|((with_reducible refine gate_dst (N:=5) rfl ?_);refine box_event ?hg (N:=5) ?hd (cs:=#[.int .i64 0,.slice none 0 0]) (t:=30) ?hr ?_;(case hd=>rfl);(case hg=>rfl);(case hr=>first|(go_simp;done)|(go_simp;rfl));intro gb157 hg w7 hbox hb;have n0_:=Aside0.mk (Kd.S_below (Kd.S_elderB qz60 gb157 (Nat.le_of_eq hg.symm)) hb);have n1_:=Aside0.mk (below_step qz4 hb);have n2_:=Aside0.mk (hbox);have n3_:=Aside0.mk ((by rw [hg];exact (below_size qz4):w.heap.size≤gb157));have n4_:=Aside0.mk ((by rw [hg];exact (below_size qz4):w.heap.size≤gb157));clear HO_3 HB;have HO_3:=n0_;have HB:=n1_;have BK157:=n2_;have GW157:=n3_;have GE157:=n4_;clear n0_ n1_ n2_ n3_ n4_ hb hbox hg;have hcz8_0:w7.cell? ⟨gb157,0,none⟩=some (.int .i64 0):=(blk_cell BK157.out 0).trans rfl;have hcz8_1:w7.cell? ⟨gb157,1,none⟩=some (.slice none 0 0):=(blk_cell BK157.out 1).trans rfl;have hfz8_0:=blk_frozen BK157.out 0;have hfz8_1:=blk_frozen BK157.out 1))
       have n0_:Aside0 (Kd.S k30 30 ((w7.setCell ⟨gb157,0,none⟩ (.int .i64 ((rd_T30 l0 x8_1).f0))).setCell ⟨gb157,1,none⟩ (.slice A156_1 ((rd_T30 l0 x8_1).f1).length c156_1)) w.heap.size (fun k_=>k_≠gb157) u3 x3_1):=⟨by (with_reducible repeat (first|apply Kd.S_alloc|apply Kd.S_drewN|apply Kd.S_drew));exact Kd.S_mono (Kd.S_far (p:=⟨gb157,1,none⟩) (Kd.S_far (p:=⟨gb157,0,none⟩) (Kd.S_mono HO_3.out (fun k_ hk=>(⟨hk,hk.2⟩:_∧k_≠gb157))) (fun _ hk=>hk.2) (.int .i64 ((rd_T30 l0 x8_1).f0))) (fun _ hk=>hk.2) (.slice A156_1 ((rd_T30 l0 x8_1).f1).length c156_1)) (fun _ hk=>hk.1.2)⟩
       have n1_:Aside0 (((w7.setCell ⟨gb157,0,none⟩ (.int .i64 ((rd_T30 l0 x8_1).f0))).setCell ⟨gb157,1,none⟩ (.slice A156_1 ((rd_T30 l0 x8_1).f1).length c156_1)).heap[gb157]?=some (.cells #[.int .i64 ((rd_T30 l0 x8_1).f0),.slice A156_1 ((rd_T30 l0 x8_1).f1).length c156_1] 30 (0,0))):=⟨by (with_reducible repeat (first|refine blk_drewN ?_ _|refine blk_drew ?_|refine blk_alloc ?_ _));refine blk_put (cs:=#[.int .i64 ((rd_T30 l0 x8_1).f0),.slice none 0 0]) ?_ 1 _ rfl;(with_reducible repeat (first|refine blk_drewN ?_ _|refine blk_drew ?_|refine blk_alloc ?_ _));refine blk_put (cs:=#[.int .i64 0,.slice none 0 0]) ?_ 0 _ rfl;(with_reducible repeat (first|refine blk_drewN ?_ _|refine blk_drew ?_|refine blk_alloc ?_ _));exact BK157.out⟩
       have n2_:Aside0 (Below w.heap.size w ((w7.setCell ⟨gb157,0,none⟩ (.int .i64 ((rd_T30 l0 x8_1).f0))).setCell ⟨gb157,1,none⟩ (.slice A156_1 ((rd_T30 l0 x8_1).f1).length c156_1))):=⟨qz45⟩
       (try clear HO_3)
       (try clear BK157)
       (try clear HB)
       generalize ((w7.setCell ⟨gb157,0,none⟩ (.int .i64 ((rd_T30 l0 x8_1).f0))).setCell ⟨gb157,1,none⟩ (.slice A156_1 ((rd_T30 l0 x8_1).f1).length c156_1))=w9 at n0_ n1_ n2_ ⊢
       have HO_3:=n0_
       have BK157:=n1_
       have HB:=n2_
       clear n0_ n1_ n2_
       have n0_:=Aside0.mk (Kd.S_drew HO_3.out)
       have n1_:=Aside0.mk (blk_drew BK157.out)
       have n2_:=Aside0.mk (below_drew1 HB.out)
       clear HO_3 BK157 HB
       have HO_3:=n0_
       have BK157:=n1_
       have HB:=n2_
       clear n0_ n1_ n2_
       refine start_ (n:=10) (S:=fun w'=>w'.cell? ⟨gb157,0,none⟩=some (.int .i64 ((rd_T30 l0 x8_1).f0))∧w'.cell? ⟨gb157,1,none⟩=some (.slice A156_1 ((rd_T30 l0 x8_1).f1).length c156_1)) (ds:=[]) #[false,false,false,false,false,false,false,false,false,false] (by kernel_rfl) rfl rfl ⟨(blk_cell BK157.out 0).trans rfl,(blk_cell BK157.out 1).trans rfl⟩ (fun hHeld=>?_);refine with_tabW impl_copiedBinds.tab5 impl_copiedBinds.bits5 (fun HT_ HW_=>?_)
       generalize w9.drew=w10 at HO_3 BK157 HB hHeld ⊢
       refine pure_ (i:=0) (N:=some 12) (v:=?_) (a':=?_) #[true,false,false,false,false,false,false,false,false,false] rfl rfl (any_of HT_.out (by kernel_rfl)) (fun _ _ _ h=>h) (Or.inl ⟨by rfl,?_⟩) ?_ ?_
       rotate_left
       ·intro w'
        go_simp
        with_reducible rfl
       rotate_left
       ·simp only [Act.put,List.setIfInBounds_toArray,List.set_cons_zero,List.set_cons_succ,i64_w,i32_w]
        rfl
       refine pure_ (i:=1) (N:=some 13) (v:=?_) (a':=?_) #[true,true,false,false,false,false,false,false,false,false] rfl rfl (any_of HT_.out (by kernel_rfl)) (fun _ _ _ h=>h) (Or.inl ⟨by rfl,?_⟩) ?_ ?_
       rotate_left
       ·intro w'
        go_simp
        with_reducible rfl
       rotate_left
       ·simp only [Act.put,List.setIfInBounds_toArray,List.set_cons_zero,List.set_cons_succ,i64_w,i32_w]
        rfl
       refine pure_ (i:=3) (N:=some 15) (v:=?_) (a':=?_) #[true,true,false,true,false,false,false,false,false,false] rfl rfl (any_of HT_.out (by kernel_rfl)) (fun _ _ _ h=>h) (Or.inl ⟨by rfl,?_⟩) ?_ ?_
       rotate_left
       ·intro w'
        go_simp
        with_reducible rfl
       rotate_left
       ·simp only [Act.put,List.setIfInBounds_toArray,List.set_cons_zero,List.set_cons_succ,i64_w,i32_w]
        rfl
       refine take_ (i:=2) (N:=some 14) (v:=?_) (a':=?_) #[true,true,true,true,false,false,false,false,false,false] rfl rfl (take_ofW HT_.out HW_.out (by kernel_rfl)) (fun _ _ _ h=>h) (Or.inl ⟨by rfl,?_⟩) hHeld ?_ ?_
       rotate_left
       ·rintro w' ⟨s0,s1⟩
        go_simp
        with_reducible rfl
       rotate_left
       ·simp only [Act.put,List.setIfInBounds_toArray,List.set_cons_zero,List.set_cons_succ,i64_w,i32_w]
        rfl
       refine take_ (i:=4) (N:=some 16) (v:=?_) (a':=?_) #[true,true,true,true,true,false,false,false,false,false] rfl rfl (take_ofW HT_.out HW_.out (by kernel_rfl)) (fun _ _ _ h=>h) (Or.inl ⟨by rfl,?_⟩) hHeld ?_ ?_
       rotate_left
       ·rintro w' ⟨s0,s1⟩
        go_simp
        with_reducible rfl
       rotate_left
       ·simp only [Act.put,List.setIfInBounds_toArray,List.set_cons_zero,List.set_cons_succ,i64_w,i32_w]
        rfl
       refine one_ (i:=5) (N:=some 17) #[true,true,true,true,true,true,false,false,false,false] rfl rfl (one_of HT_.out (by kernel_rfl)) (by decide) (fun K hK=>?_)
       refine goes_ Tryd.func55 (by kernel_rfl) rfl #[.slice A156_1 ((rd_T30 l0 x8_1).f1).length c156_1] (by rfl) rfl rfl qz24 ?_
       with_reducible refine (slices_Clone_TrmCell.calls _ _ ((rd_T30 l0 x8_1).f1) t158 _ ?side1 ?side2 A5.out).mono ?_
       (case side1=>repeat (first|exact (Kd.C_below HR156_1.out HB.out)|(with_reducible refine Kd.C_alloc ?_ _)|(with_reducible refine Kd.C_drewN ?_ _)|(with_reducible refine Kd.C_drew ?_)))
       (case side2=>exact HC156_1.out)
       rintro e w11 ⟨v159,rfl,ho0,hb⟩
       refine ⟨_,rfl,?_⟩
       have n0_:=Aside0.mk (Kd.S_elder' qz60 (Kd.R_base ho0) hb)
       have n1_:=Aside0.mk (Kd.R_lower ho0 (below_size qz45))
       have n2_:=Aside0.mk (blk_below (g:=gb157) (o:=.cells #[.int .i64 ((rd_T30 l0 x8_1).f0),.slice A156_1 ((rd_T30 l0 x8_1).f1).length c156_1] 30 (0,0)) qz81 hb)
       have n3_:=Aside0.mk (below_step qz45 hb)
       clear HO_3 BK157 HB
       have HO_3:=n0_
       have HO160:=n1_
       have BK157:=n2_
       have HB:=n3_
       clear n0_ n1_ n2_ n3_
       (try clear hb)
       (try clear hb2)
       (try clear hk)
       (try clear hi)
       (try clear ho0)
       obtain ⟨Ao12,co12,eo12⟩:=Kd.R_slice HO160.out
       (first|subst eo12|(injection eo12 with f1_ f2_ f3_;have f4_:=f1_.symm;have f5_:=f3_.symm;clear f1_ f2_ f3_;subst f4_;subst f5_))
       refine hK.out _ _ ⟨(blk_cell BK157.out 0).trans rfl,(blk_cell BK157.out 1).trans rfl⟩ (fun hHeld=>?_)
       clear hK K
       refine norm_ (a':=?_) ?_ ?_
       rotate_left
       ·show Act.put _ (some 17) _=_
        simp only [Act.put,List.setIfInBounds_toArray,List.set_cons_zero,List.set_cons_succ,i64_w,i32_w]
        rfl
       refine pure_ (i:=6) (N:=some 18) (v:=?_) (a':=?_) #[true,true,true,true,true,true,true,false,false,false] rfl rfl (any_of HT_.out (by kernel_rfl)) (fun _ _ _ h=>h) (Or.inl ⟨by rfl,?_⟩) ?_ ?_
       rotate_left
       ·intro w'
        go_simp
        with_reducible rfl
       rotate_left
       ·simp only [Act.put,List.setIfInBounds_toArray,List.set_cons_zero,List.set_cons_succ,i64_w,i32_w]
        rfl
       refine one_ (i:=7) (N:=some 19) #[true,true,true,true,true,true,true,true,false,false] rfl rfl (one_of HT_.out (by kernel_rfl)) (by decide) (fun K hK=>?_)
       refine value_ (w1:=?_) (v:=?_) (by rfl) rfl ?_ ?_
       rotate_left 2
       ·go_simp
        constructor
        ·rfl
        ·rfl
       refine hK.out _ _ ⟨(blk_cell (blk_alloc BK157.out _) 0).trans rfl,(blk_cell (blk_alloc BK157.out _) 1).trans rfl⟩ (fun hHeld=>?_)
       clear hK K
       refine norm_ (a':=?_) ?_ ?_
       rotate_left
       ·show Act.put _ (some 19) _=_
        simp only [Act.put,List.setIfInBounds_toArray,List.set_cons_zero,List.set_cons_succ,i64_w,i32_w]
        rfl
       refine one_ (i:=8) (N:=some 20) #[true,true,true,true,true,true,true,true,true,false] rfl rfl (one_of HT_.out (by kernel_rfl)) (by decide) (fun K hK=>?_)
       refine Kd.S_append_step k30 (w0:=w) w.heap.size (by rfl) (.tmp 12) (.tmp 19) 23 30 (.agg #[(.int .i64 0),(.slice none 0 0)]) 32 rfl Tryd.underlying23 info30 rfl (by decide) (by omega) u3 x3_1 (⟨(rd_T30 l0 x8_1).f0,t158⟩:S30) [.int .i64 ((rd_T30 l0 x8_1).f0),.slice Ao12 t158.length co12] (fun k_=>k_≠gb157) (fun k_=>some k_=(.slice Ao12 t158.length co12:Value).ownBlock) rfl rfl ?aP (fun k_ hk_=>((Kd.R_mono (ok':=fun k_=>((fun k_=>k_≠gb157)) k_∧some k_≠(u3:Value).ownBlock) (Kd.R_types (Kd.R_apart' (HO160.out) (Kd.S_typed HO_3.out) (by decide)) BK157.out (by decide)) (fun k_ hk=>⟨hk.2,hk.1.2⟩))).1 k_ hk_.symm) ?aF ?aO ?aB ?aS ?aL ?_
       (case aP=>exact k30_mkM _ _ _ (⟨(rd_T30 l0 x8_1).f0,t158⟩:S30) (Kd.R_mono (Kd.R_tight rfl (Kd.R_mono (ok':=fun k_=>((fun k_=>k_≠gb157)) k_∧some k_≠(u3:Value).ownBlock) (Kd.R_types (Kd.R_apart' (HO160.out) (Kd.S_typed HO_3.out) (by decide)) BK157.out (by decide)) (fun k_ hk=>⟨hk.2,hk.1.2⟩))) (fun _ h_=>h_)))
       (case aB=>exact qz45)
       (case aF=>exact (fun k_ hk=>Kd.freshB (g:=gb157) (o:=.cells #[.int .i64 ((rd_T30 l0 x8_1).f0),.slice A156_1 ((rd_T30 l0 x8_1).f1).length c156_1] 30 (0,0)) qz81 k_ hk))
       (case aO=>(with_reducible repeat (first|apply Kd.S_alloc|apply Kd.S_drewN|apply Kd.S_drew));exact Kd.S_mono HO_3.out (fun k_ hk=>⟨hk.1,fun e_=>hk.2 e_⟩))
       (case aS=>exact (below_size qz45))
       (case aL=>have:=LMc6.out;omega)
       intro v162 w13 ho hb hg hat
       rw [← Ny161.out] at ho
       have n0_:=Aside0.mk (blk_grown (g:=gb157) (o:=.cells #[.int .i64 ((rd_T30 l0 x8_1).f0),.slice A156_1 ((rd_T30 l0 x8_1).f1).length c156_1] 30 (0,0)) qz81 hg (Kd.S_away HO_3.out (fun _ hk=>hk.1)))
       have n1_:=Aside0.mk (hb)
       have n2_:=Aside0.mk (ho)
       clear BK157 HB HO_3 HO160
       have BK157:=n0_
       have HB:=n1_
       have HO163:=n2_
       clear n0_ n1_ n2_ ho hb hg hat
       refine hK.out _ _ ⟨(blk_cell BK157.out 0).trans rfl,(blk_cell BK157.out 1).trans rfl⟩ (fun hHeld=>?_)
       clear hK K
       refine norm_ (a':=?_) ?_ ?_
       rotate_left
       ·show Act.put _ (some 20) _=_
        simp only [Act.put,List.setIfInBounds_toArray,List.set_cons_zero,List.set_cons_succ,i64_w,i32_w]
        rfl
       refine pure_ (i:=9) (N:=some 3) (v:=?_) (a':=?_) #[true,true,true,true,true,true,true,true,true,true] rfl rfl (any_of HT_.out (by kernel_rfl)) (fun _ _ _ h=>h) (Or.inl ⟨by rfl,?_⟩) ?_ ?_
       rotate_left
       ·intro w'
        go_simp
        with_reducible rfl
       rotate_left
       ·simp only [Act.put,List.setIfInBounds_toArray,List.set_cons_zero,List.set_cons_succ,i64_w,i32_w]
        rfl
       refine done_ (done_of HT_.out (by kernel_rfl)) ?_
       try go_wp2
       go_roundg k1
       case measure=>have:=HK1.out;omega
       case rel=>exact ⟨(y161),(wrap64 (x8_1+1)),qz9,H',⟨by have:=HK1.out;omega⟩,⟨by (with_reducible repeat (first|apply Kd.S_alloc|apply Kd.S_drewN|apply Kd.S_drew));exact Kd.S_mono HO163.out (fun _ hk=>trivial)⟩,⟨qz45⟩⟩
      ·rw [if_neg c6] at H
       exact absurd H (by simp)
     ·rw [if_neg c4] at H
      exact absurd H (by simp)
    ·rw [if_neg c3] at H
     exact absurd H (by simp)
   ·rw [if_neg c2] at H
    have c2b0:decide (x8_1<(l0.length:Int))=false:=decide_eq_false c2
    clear c2
    obtain rfl:=Option.some.inj H
    go_wp2
    go_ret
    exact ⟨_,qz7,qz60,qz5⟩
def impl_SubUnify.f (k:Nat) (l0:List (S30)) (l1:List (S46)) (l2:List (S46)):Option (List (S30) × Int):=
 (impl_SubOk.f k l0).bind fun b0=>(impl_TrmOk.f l1).bind fun b1=>(impl_TrmOk.f l2).bind fun b2=>if b0=false then some ([],4) else if b1=false then some ([],4) else if b2=false then some ([],4) else
  (oneF k l0 l1 l2).bind fun r=>(impl_copiedBinds.f k r.1).bind fun x=>some (x,r.2)
set_option maxHeartbeats 16000000 in
set_option maxRecDepth 100000 in
theorem impl_SubUnify.calls (k:Nat) (A0:Option Addr) (c0:Nat) (l0:List (S30)) (A1:Option Addr) (c1:Nat) (l1:List (S46)) (A2:Option Addr) (c2:Nat) (l2:List (S46)) (r1:List (S30)) (r2:Int) (w:World) (hr0:Kd.C k30 w A0 l0.length l0) (hc0:l0.length≤c0) (hr1:Kd.C k46 w A1 l1.length l1) (hc1:l1.length≤c1) (hr2:Kd.C k46 w A2 l2.length l2) (hc2:l2.length≤c2) (h:impl_SubUnify.f k l0 l1 l2=some (r1,r2)) :
  Calls Tryd.prog 31 #[.slice A0 l0.length c0,.slice A1 l1.length c1,.slice A2 l2.length c2] w fun e w'=>∃ v0_:Value,e = .returned (.tuple #[v0_,.int .i64 r2])∧Kd.S k30 30 w' w.heap.size (fun _=>True) v0_ r1∧Below w.heap.size w w':=by
 unfold impl_SubUnify.f at h
 obtain ⟨b0,h0,g0⟩:=Option.bind_eq_some_iff.1 h
 obtain ⟨b1,h1,g1⟩:=Option.bind_eq_some_iff.1 g0
 obtain ⟨b2,h2,g2⟩:=Option.bind_eq_some_iff.1 g1
 have H0:=Aside0.mk h0
 have H1:=Aside0.mk h1
 have H2:=Aside0.mk h2
 have HS:=Aside0.mk hr0
 have HA:=Aside0.mk hr1
 have HB:=Aside0.mk hr2
 have H:=Aside0.mk g2
 clear h h0 h1 h2 g0 g1 g2 hr0 hr1 hr2
 have wrong:b0=false∨b1=false∨b2=false→r1=[]∧r2=4:=fun q=>by
  have h:=H.out
  by_cases e0:b0=false
  ·rw [if_pos e0] at h;injection h with h;injection h with h h';exact ⟨h.symm,h'.symm⟩
  ·rw [if_neg e0] at h
   by_cases e1:b1=false
   ·rw [if_pos e1] at h;injection h with h;injection h with h h';exact ⟨h.symm,h'.symm⟩
   ·rw [if_neg e1] at h
    by_cases e2:b2=false
    ·rw [if_pos e2] at h;injection h with h;injection h with h h';exact ⟨h.symm,h'.symm⟩
    ·rcases q with q|q|q
     ·exact absurd q e0
     ·exact absurd q e1
     ·exact absurd q e2
 have WR:=Aside0.mk wrong
 clear wrong
 cases b0 with
 | false=>
  obtain ⟨rfl,rfl⟩:=WR.out (.inl rfl)
  go_enter Tryd.func31,Tryd.ntmps31
  go_wp2_with (go_at_call 26;(with_reducible refine (impl_SubOk.calls k A0 c0 l0 false w HS.out hc0 H0.out).mono ?_);rintro e w1 ⟨rfl,hb1⟩;have HB1:=Aside0.mk hb1;clear hb1)
  go_ret2
  exact ⟨_,rfl,Kd.S_nil _ _ _ _ _,HB1.out⟩
 | true=>
 cases b1 with
 | false=>
  obtain ⟨rfl,rfl⟩:=WR.out (.inr (.inl rfl))
  go_enter Tryd.func31,Tryd.ntmps31
  go_wp2_with (first
   | (go_at_call 26;(with_reducible refine (impl_SubOk.calls k A0 c0 l0 true w HS.out hc0 H0.out).mono ?_);rintro e w1 ⟨rfl,hb1⟩;have HB1:=Aside0.mk hb1;clear hb1)
   | (go_at_call 42;(with_reducible refine (impl_TrmOk.calls A1 c1 l1 false _ (Kd.C_below HA.out HB1.out) hc1 H1.out).mono ?_);rintro e w2 ⟨rfl,hb2⟩;have HB2:=Aside0.mk (HB1.out.trans (hb2.mono HB1.out.size));clear hb2))
  go_ret2
  exact ⟨_,rfl,Kd.S_nil _ _ _ _ _,HB2.out⟩
 | true=>
 cases b2 with
 | false=>
  obtain ⟨rfl,rfl⟩:=WR.out (.inr (.inr rfl))
  go_enter Tryd.func31,Tryd.ntmps31
  go_wp2_with (first
   | (go_at_call 26;(with_reducible refine (impl_SubOk.calls k A0 c0 l0 true w HS.out hc0 H0.out).mono ?_);rintro e w1 ⟨rfl,hb1⟩;have HB1:=Aside0.mk hb1;clear hb1)
   | (go_at_call 42;(with_reducible refine (impl_TrmOk.calls A1 c1 l1 true _ (Kd.C_below HA.out HB1.out) hc1 H1.out).mono ?_);rintro e w2 ⟨rfl,hb2⟩;have HB2:=Aside0.mk (HB1.out.trans (hb2.mono HB1.out.size));clear hb2)
   | (go_at_call 42;(with_reducible refine (impl_TrmOk.calls A2 c2 l2 false _ (Kd.C_below HB.out HB2.out) hc2 H2.out).mono ?_);rintro e w3 ⟨rfl,hb3⟩;have HB3:=Aside0.mk (HB2.out.trans (hb3.mono HB2.out.size));clear hb3))
  go_ret2
  exact ⟨_,rfl,Kd.S_nil _ _ _ _ _,HB3.out⟩
 | true=>
  have h:=H.out
  rw [if_neg (by simp),if_neg (by simp),if_neg (by simp)] at h
  obtain ⟨⟨x,code⟩,h3,h4⟩:=Option.bind_eq_some_iff.1 h
  obtain ⟨y,h5,h6⟩:=Option.bind_eq_some_iff.1 h4
  injection h6 with h6
  injection h6 with h6 h7
  subst h6 h7
  have H3:=Aside0.mk h3
  have H5:=Aside0.mk h5
  clear h h3 h4 h5 H WR
  go_enter Tryd.func31,Tryd.ntmps31
  go_wp2_with (first
   | (go_at_call 26;(with_reducible refine (impl_SubOk.calls k A0 c0 l0 true w HS.out hc0 H0.out).mono ?_);rintro e w1 ⟨rfl,hb1⟩;have HB1:=Aside0.mk hb1;clear hb1)
   | (go_at_call 42;(with_reducible refine (impl_TrmOk.calls A1 c1 l1 true _ (Kd.C_below HA.out HB1.out) hc1 H1.out).mono ?_);rintro e w2 ⟨rfl,hb2⟩;have HB2:=Aside0.mk (HB1.out.trans (hb2.mono HB1.out.size));clear hb2)
   | (go_at_call 42;(with_reducible refine (impl_TrmOk.calls A2 c2 l2 true _ (Kd.C_below HB.out HB2.out) hc2 H2.out).mono ?_);rintro e w3 ⟨rfl,hb3⟩;have HB3:=Aside0.mk (HB2.out.trans (hb3.mono HB2.out.size));clear hb3)
   | (go_at_call 69;(with_reducible refine (impl_bindings_one.any _ k l0 l1 l2 x code A0 A1 A2 c0 c1 c2 (Kd.C_below HS.out HB3.out) hc0 (Kd.C_below HA.out HB3.out) hc1 (Kd.C_below HB.out HB3.out) hc2 H3.out).mono ?_);rintro e w4 ⟨A4,c4,row4,rfl,hB4,hb4⟩;have HB4:=Aside0.mk (HB3.out.trans (hb4.mono HB3.out.size));have HX:=Aside0.mk hB4;have hc4:x.length≤c4:=(by obtain ⟨A5,c5,e5,h5,_⟩:=hB4.C;injection e5 with _ _ e5;omega);have HC4:=Aside0.mk (show Kd.C k30 w4 A4 x.length x from (by obtain ⟨A5,c5,e5,_,h5⟩:=hB4.C;injection e5 with e5 _ _;subst e5;exact h5));clear hB4 hb4)
   | (go_at_call 70;(with_reducible refine (impl_copiedBinds.calls k A4 c4 x y _ HC4.out hc4 H5.out).mono ?_);rintro e w5 ⟨v5,rfl,ho5,hb5⟩;have HO5:=Aside0.mk ho5;have HB5:=Aside0.mk (HB4.out.trans (hb5.mono HB4.out.size));have hz5:=HB4.out.size;clear ho5 hb5))
  go_ret2
  exact ⟨_,rfl,Kd.S_lower HO5.out hz5,HB5.out⟩
def impl_SubFull.f (k:Nat) (l0:List (S30)) (l1:List (S46)):Option ((List (S46)) × Bool):=(impl_SubOk.f k l0).bind fun t164=>(if t164=true then ((impl_TrmOk.f l1).bind fun t165=>(if t165=true then ((impl_bindings_full.f k l0 l1).bind fun bt166=>(some (bt166.1,bt166.2))) else (some (([]:List (S46)),false)))) else (some (([]:List (S46)),false)))
set_option maxHeartbeats 8000000 in
set_option maxRecDepth 100000 in
theorem impl_SubFull.calls (k:Nat) (A0:Option Addr) (c0:Nat) (l0:List (S30)) (A1:Option Addr) (c1:Nat) (l1:List (S46)) (r1:List (S46)) (r2:Bool) (w:World) (hr0:Kd.C k30 w A0 l0.length l0) (hc0:l0.length≤c0) (hr1:Kd.C k46 w A1 l1.length l1) (hc1:l1.length≤c1) (h:impl_SubFull.f k l0 l1=some (r1,r2)) :
  Calls Tryd.prog 36 #[.slice A0 l0.length c0,.slice A1 l1.length c1] w fun e w'=>∃ v0_:Value,e = .returned (.tuple #[v0_,.bool r2])∧Kd.R k46 46 w' w.heap.size (fun _=>True) v0_ r1∧Below w.heap.size w w':=by
 have HR0:=Aside0.mk hr0
 have HC0:=Aside0.mk hc0
 clear hr0 hc0
 have HR1:=Aside0.mk hr1
 have HC1:=Aside0.mk hc1
 clear hr1 hc1
 have HB:=Aside0.mk (Below.refl w.heap.size w)
 have H:((impl_SubOk.f k l0).bind fun t164=>(if t164=true then ((impl_TrmOk.f l1).bind fun t165=>(if t165=true then ((impl_bindings_full.f k l0 l1).bind fun bt166=>(some (bt166.1,bt166.2))) else (some (([]:List (S46)),false)))) else (some (([]:List (S46)),false))))=some (r1,r2):=h
 clear h
 replace H:=Option.bind_eq_some_iff.mp H
 obtain ⟨t164,A30,H⟩:=H
 try dsimp only at H
 have A3:=Aside0.mk A30
 clear A30
 by_cases c4:t164=true
 ·subst c4
  have H1:((impl_TrmOk.f l1).bind fun t165=>(if t165=true then ((impl_bindings_full.f k l0 l1).bind fun bt166=>(some (bt166.1,bt166.2))) else (some (([]:List (S46)),false))))=some (r1,r2):=qz40
  clear H
  have H:=H1
  clear H1
  replace H:=Option.bind_eq_some_iff.mp H
  obtain ⟨t165,A50,H⟩:=H
  try dsimp only at H
  have A5:=Aside0.mk A50
  clear A50
  by_cases c6:t165=true
  ·subst c6
   have H1:((impl_bindings_full.f k l0 l1).bind fun bt166=>(some (bt166.1,bt166.2)))=some (r1,r2):=qz40
   clear H
   have H:=H1
   clear H1
   replace H:=Option.bind_eq_some_iff.mp H
   obtain ⟨⟨t166,t167⟩,A70,H⟩:=H
   try dsimp only at H
   have A7:=Aside0.mk A70
   clear A70
   simp only [Option.some.injEq,Prod.mk.injEq] at H
   obtain ⟨rfl,rfl⟩:=H
   go_enter Tryd.func36,Tryd.ntmps36
   go_wp2_with (first|(go_at_call 26;(with_reducible refine (impl_SubOk.calls k _ _ l0 true _ ?side1 ?side2 A3.out).mono ?_);(case side1=>exact qz57);(case side2=>exact HC0.out);rintro e w8 ⟨rfl,hb⟩;have n0_:=Aside0.mk (below_step qz4 hb);clear HB;have HB:=n0_;clear n0_;(try clear hb);(try clear hb2);(try clear hk);(try clear hi))|(go_at_call 42;(with_reducible refine (impl_TrmOk.calls _ _ l1 true _ ?side1 ?side2 A5.out).mono ?_);(case side1=>exact qz53);(case side2=>exact HC1.out);rintro e w9 ⟨rfl,hb⟩;have n0_:=Aside0.mk (below_step qz4 hb);clear HB;have HB:=n0_;clear n0_;(try clear hb);(try clear hb2);(try clear hk);(try clear hi))|(go_at_call 75;(with_reducible refine (impl_bindings_full.calls k _ _ l0 _ _ l1 t166 t167 _ ?side1 ?side2 ?side3 ?side4 A7.out).mono ?_);(case side1=>exact qz36);(case side2=>exact HC0.out);(case side3=>exact qz53);(case side4=>exact HC1.out);rintro e w10 ⟨v168,rfl,ho0,hb⟩;have n0_:=Aside0.mk (Kd.R_lower ho0 (below_size qz4));have n1_:=Aside0.mk (below_step qz4 hb);clear HB;have HO169:=n0_;have HB:=n1_;clear n0_ n1_;(try clear hb);(try clear hb2);(try clear hk);(try clear hi);(try clear ho0)))
   go_ret2
   exact ⟨_,qz7,by (with_reducible repeat (first|apply Kd.R_alloc|apply Kd.R_drewN|apply Kd.R_drew));exact HO169.out,qz5⟩
  ·replace c6:=Bool.eq_false_iff.mpr c6
   subst c6
   have H1:(some (([]:List (S46)),false))=some (r1,r2):=qz20
   clear H
   have H:=H1
   clear H1
   simp only [Option.some.injEq,Prod.mk.injEq] at H
   obtain ⟨rfl,rfl⟩:=H
   go_enter Tryd.func36,Tryd.ntmps36
   go_wp2_with (first|(go_at_call 26;(with_reducible refine (impl_SubOk.calls k _ _ l0 true _ ?side1 ?side2 A3.out).mono ?_);(case side1=>exact qz57);(case side2=>exact HC0.out);rintro e w11 ⟨rfl,hb⟩;have n0_:=Aside0.mk (below_step qz4 hb);clear HB;have HB:=n0_;clear n0_;(try clear hb);(try clear hb2);(try clear hk);(try clear hi))|(go_at_call 42;(with_reducible refine (impl_TrmOk.calls _ _ l1 false _ ?side1 ?side2 A5.out).mono ?_);(case side1=>exact qz53);(case side2=>exact HC1.out);rintro e w12 ⟨rfl,hb⟩;have n0_:=Aside0.mk (below_step qz4 hb);clear HB;have HB:=n0_;clear n0_;(try clear hb);(try clear hb2);(try clear hk);(try clear hi)))
   go_ret2
   exact ⟨_,qz7,qz80,qz5⟩
 ·replace c4:=Bool.eq_false_iff.mpr c4
  subst c4
  have H1:(some (([]:List (S46)),false))=some (r1,r2):=qz20
  clear H
  have H:=H1
  clear H1
  simp only [Option.some.injEq,Prod.mk.injEq] at H
  obtain ⟨rfl,rfl⟩:=H
  go_enter Tryd.func36,Tryd.ntmps36
  go_wp2_with (first|(go_at_call 26;(with_reducible refine (impl_SubOk.calls k _ _ l0 false _ ?side1 ?side2 A3.out).mono ?_);(case side1=>exact qz57);(case side2=>exact HC0.out);rintro e w13 ⟨rfl,hb⟩;have n0_:=Aside0.mk (below_step qz4 hb);clear HB;have HB:=n0_;clear n0_;(try clear hb);(try clear hb2);(try clear hk);(try clear hi)))
  go_ret2
  exact ⟨_,qz7,qz80,qz5⟩
def spec_l1Has.l0:Nat→List Int→Int→Int→Option (Bool)
 | 0,_,_,_=>none
 | k+1,x0,x1,x5=>if x5<(x0.length:Int) then (if 0≤x5 then (if (rd x0 x5)=x1 then (some true) else (spec_l1Has.l0 k x0 x1 (wrap64 (x5+1)))) else (none)) else (some false)
def spec_l1Has.f (k:Nat) (l0:List Int) (a1:Int):Option (Bool):=spec_l1Has.l0 k l0 a1 0
set_option maxHeartbeats 8000000 in
set_option maxRecDepth 100000 in
theorem spec_l1Has.calls (k:Nat) (A0:Option Addr) (c0:Nat) (l0:List Int) (a1:Int) (r:Bool) (w:World) (hr0:Kd.C (Kd.int .i64) w A0 l0.length l0) (hc0:l0.length≤c0) (h:spec_l1Has.f k l0 a1=some r) :
  Calls Tryd.prog 58 #[.slice A0 l0.length c0,.int .i64 a1] w fun e w'=>e = .returned (.bool r)∧Drawn0 w w':=by
 have HR0:=Aside0.mk hr0
 have HC0:=Aside0.mk hc0
 clear hr0 hc0
 have H:(spec_l1Has.l0 k l0 a1 0)=some r:=h
 clear h
 have H':=Aside0.mk H
 clear H
 go_enter Tryd.func58,Tryd.ntmps58
 go_wp2
 go_loopg [5] k (fun kq v5 w'=>∃ (x5_1:Int),v5 = .int .i64 x5_1∧Aside0 (spec_l1Has.l0 kq l0 a1 x5_1=some r)∧Aside0 (kq≤k)∧Drawn0 w w')
 case atStart=>exact ⟨(0),qz9,H',⟨Nat.le_refl _⟩,qz19⟩
 case round=>
  clear H'
  try clear p2
  obtain ⟨x5_1,rfl,HA,HK1,⟨m1,rfl⟩⟩:=hrel
  cases gk with
  | zero=>exact absurd HA.out (by simp [spec_l1Has.l0])
  | succ k1=>
   have H:=HA.out
   clear HA
   simp only [spec_l1Has.l0] at H
   by_cases c3:x5_1<(l0.length:Int)
   ·rw [if_pos c3] at H
    have c3b0:decide (x5_1<(l0.length:Int))=true:=decide_eq_true c3
    clear c3
    by_cases c4:0≤x5_1
    ·rw [if_pos c4] at H
     have c4b0:decide (0≤x5_1)=true:=decide_eq_true c4
     clear c4
     by_cases c5:(rd l0 x5_1)=a1
     ·rw [if_pos c5] at H
      have c5b0:((rd l0 x5_1) == a1)=true:=beq_iff_eq.mpr c5
      have c5b1:((rd l0 x5_1) != a1)=false:=bne_eq_false_iff_eq.mpr c5
      clear c5
      obtain rfl:=Option.some.inj H
      have p176:0≤(x5_1:Int):=of_decide_eq_true qz6
      have q176:x5_1<(l0.length:Int):=of_decide_eq_true qz6
      obtain ⟨ad176,e176,hx176_0⟩:=Kd.at_int HR0.out x5_1 p176 q176
      cases e176
      replace p176:=eq_true p176
      replace q176:=eq_true q176
      go_wp2
      go_ret
      exact ⟨qz9,qz19⟩
     ·rw [if_neg c5] at H
      have c5b0:((rd l0 x5_1) == a1)=false:=beq_eq_false_iff_ne.mpr c5
      have c5b1:((rd l0 x5_1) != a1)=true:=bne_iff_ne.mpr c5
      have H':=Aside0.mk H
      clear H
      have p176:0≤(x5_1:Int):=of_decide_eq_true qz6
      have q176:x5_1<(l0.length:Int):=of_decide_eq_true qz6
      obtain ⟨ad176,e176,hx176_0⟩:=Kd.at_int HR0.out x5_1 p176 q176
      cases e176
      replace p176:=eq_true p176
      replace q176:=eq_true q176
      go_wp2
      go_roundg k1
      case measure=>have:=HK1.out;omega
      case rel=>exact ⟨(wrap64 (x5_1+1)),qz9,H',⟨by have:=HK1.out;omega⟩,qz19⟩
    ·rw [if_neg c4] at H
     exact absurd H (by simp)
   ·rw [if_neg c3] at H
    have c3b0:decide (x5_1<(l0.length:Int))=false:=decide_eq_false c3
    clear c3
    obtain rfl:=Option.some.inj H
    go_wp2
    go_ret
    exact ⟨qz9,qz19⟩
end Go.Proofs.YtlaicnoikeieeaaDoor.P
