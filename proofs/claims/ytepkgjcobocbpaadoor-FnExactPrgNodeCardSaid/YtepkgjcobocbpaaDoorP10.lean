/- Contracts of functions of the program: each as a Lean function, and that its call does what that says; printed by cprint.py (this session) over print.py of the kit. Conditions: the hypotheses of each theorem. -/
import Derived.Test.YtepkgjcobocbpaaDoorVZ
import Derived.Test.YtepkgjcobocbpaaDoorP0
import Derived.Test.YtepkgjcobocbpaaDoorP6
import Derived.Test.YtepkgjcobocbpaaDoorP9
namespace Go.Proofs.YtepkgjcobocbpaaDoor.P
open Go.RowKit Go.Proofs.YtepkgjcobocbpaaDoorW.PrintWords Go.Proofs.YtepkgjcobocbpaaDoorW.PrintLast Go.Proofs.YtepkgjcobocbpaaDoorW.PrintMore
attribute [local go_sem] max2_int min2_int max_two min_two max_three min_three max_four min_four   -- for this text's walks alone
set_option linter.unusedVariables false
set_option linter.unusedSimpArgs false

/-! ### impl_PrgOk: function 36 -/
mutual
def impl_PrgOk.l0:Nat→List (S88)→Int→Int→List (S86)→List (S88)→Option (Bool)
 | 0,_,_,_,_,_=>none
 | k+1,x9,x10,x11,x280000,x280001=>if x11<x10 then (if 0≤x11 then (if x11<(x9.length:Int) then ((impl_nameOk.f ((rd_T88 x9 x11).f0)).bind fun t283=>(if t283=true then ((impl_in.f ((rd_T88 x9 x11).f1) 0 3).bind fun t284=>(if t284=true then ((impl_in.f ((rd_T88 x9 x11).f2) 1 2).bind fun t285=>(impl_PrgOk.j1 k x11 x9 x10 x11 (!t285) x280000 x280001 ((rd_T88 x9 x11).f0) ((rd_T88 x9 x11).f1) ((rd_T88 x9 x11).f2))) else (impl_PrgOk.j1 k x11 x9 x10 x11 true x280000 x280001 ((rd_T88 x9 x11).f0) ((rd_T88 x9 x11).f1) ((rd_T88 x9 x11).f2)))) else (impl_PrgOk.j1 k x11 x9 x10 x11 true x280000 x280001 ((rd_T88 x9 x11).f0) ((rd_T88 x9 x11).f1) ((rd_T88 x9 x11).f2)))) else (none)) else (none)) else (if (x280000.length:Int)≤12 then (if (x280001.length:Int)≤6 then ((slices_ContainsFunc_PrgClause.f k x280000).bind fun t280=>(some (!t280))) else (some false)) else (some false))
def impl_PrgOk.j1:Nat→Int→List (S88)→Int→Int→Bool→List (S86)→List (S88)→ByteArray→Int→Int→Option (Bool)
 | 0,_,_,_,_,_,_,_,_,_,_=>none
 | k+1,x3,x9,x10,x11,x31,x280000,x280001,x283000,x283001,x283002=>if x31=true then (some false) else (if 0≤x3 then (if x3≤(x280001.length:Int) then ((some (x280001.take (x3:Int).toNat:List (S88))).bind fun y286=>(impl_PrgOk.l1 k x9 x10 x11 y286 (y286.length:Int) 0 x280000 x280001 x283000 x283001 x283002)) else (none)) else (none))
def impl_PrgOk.l1:Nat→List (S88)→Int→Int→List (S88)→Int→Int→List (S86)→List (S88)→ByteArray→Int→Int→Option (Bool)
 | 0,_,_,_,_,_,_,_,_,_,_,_=>none
 | k+1,x9,x10,x11,x35,x36,x37,x280000,x280001,x283000,x283001,x283002=>if x37<x36 then (if 0≤x37 then (if x37<(x35.length:Int) then (if x283000.toList=((rd_T88 x35 x37).f0).toList then (if x283001=((rd_T88 x35 x37).f1) then (some false) else (impl_PrgOk.l1 k x9 x10 x11 x35 x36 (wrap64 (x37+1)) x280000 x280001 x283000 x283001 x283002)) else (impl_PrgOk.l1 k x9 x10 x11 x35 x36 (wrap64 (x37+1)) x280000 x280001 x283000 x283001 x283002)) else (none)) else (none)) else (impl_PrgOk.l0 k x9 x10 (wrap64 (x11+1)) x280000 x280001)
end
def impl_PrgOk.f (k:Nat) (l0_0:List (S86)) (l0_1:List (S88)):Option (Bool):=impl_PrgOk.l0 k l0_1 (l0_1.length:Int) 0 l0_0 l0_1
set_option maxHeartbeats 8000000 in
set_option maxRecDepth 100000 in
theorem impl_PrgOk.calls (k:Nat) (A0_0:Option Addr) (c0_0:Nat) (l0_0:List (S86)) (A0_1:Option Addr) (c0_1:Nat) (l0_1:List (S88)) (r:Bool) (w:World) (hr0_0:Kd.C k86 w A0_0 l0_0.length l0_0) (hc0_0:l0_0.length≤c0_0) (hr0_1:Kd.C k88 w A0_1 l0_1.length l0_1) (hc0_1:l0_1.length≤c0_1) (h:impl_PrgOk.f k l0_0 l0_1=some r) :
  Calls Tryd.prog 36 #[.agg #[.slice A0_0 l0_0.length c0_0,.slice A0_1 l0_1.length c0_1]] w fun e w'=>e = .returned (.bool r)∧Below w.heap.size w w':=by
 have hu33:=Tryd.underlying33
 have hu88:=Tryd.underlying88
 have HR0_0:=Aside0.mk hr0_0
 have HC0_0:=Aside0.mk hc0_0
 clear hr0_0 hc0_0
 have HR0_1:=Aside0.mk hr0_1
 have HC0_1:=Aside0.mk hc0_1
 clear hr0_1 hc0_1
 have HB:=Aside0.mk (Below.refl w.heap.size w)
 have H:(impl_PrgOk.l0 k l0_1 (l0_1.length:Int) 0 l0_0 l0_1)=some r:=h
 clear h
 have H':=Aside0.mk H
 clear H
 go_enter Tryd.func36,Tryd.ntmps36
 go_wp2_with (first|((with_reducible refine gate_dst (N:=1) rfl ?_);(try (refine gate_guard (by rfl) ?_;dsimp only));refine box_event ?hg (N:=1) ?hd (cs:=#[.slice A0_0 l0_0.length c0_0,.slice A0_1 l0_1.length c0_1]) (t:=33) ?hr ?_;(case hd=>rfl);(case hg=>rfl);(case hr=>first|(go_simp;done)|(go_simp;rfl));intro gb279 hg w2 hbox hb;have n0_:=Aside0.mk (below_step qz1 hb);have n1_:=Aside0.mk (hbox);have n2_:=Aside0.mk ((by rw [hg];exact (below_size qz1):w.heap.size≤gb279));have n3_:=Aside0.mk ((by rw [hg];exact (below_size qz1):w.heap.size≤gb279));clear HB;have HB:=n0_;have BK279:=n1_;have GW279:=n2_;have GE279:=n3_;clear n0_ n1_ n2_ n3_ hb hbox hg;have hcz3_0:w2.cell? ⟨gb279,0,none⟩=some (.slice A0_0 l0_0.length c0_0):=(blk_cell BK279.out 0).trans rfl;have hcz3_1:w2.cell? ⟨gb279,1,none⟩=some (.slice A0_1 l0_1.length c0_1):=(blk_cell BK279.out 1).trans rfl;have hfz3_0:=blk_frozen BK279.out 0;have hfz3_1:=blk_frozen BK279.out 1))
 go_loopg [11] k (fun kq v11 w'=>∃ (x11_1:Int),v11 = .int .i64 x11_1∧Aside0 (impl_PrgOk.l0 kq l0_1 (l0_1.length:Int) x11_1 l0_0 l0_1=some r)∧Aside0 (kq≤k)∧Aside0 (w'.heap[gb279]?=some (.cells #[(.slice A0_0 l0_0.length c0_0),(.slice A0_1 l0_1.length c0_1)] 33 (0,0)))∧Aside0 (Below w.heap.size w w'))
 case atStart=>exact ⟨(0),qz12,H',⟨Nat.le_refl _⟩,⟨qz31⟩,⟨qz63⟩⟩
 case round=>
  clear H'
  try clear p2
  try clear c3
  try clear hcz3_0
  try clear hcz3_1
  try clear hfz3_0
  try clear hfz3_1
  obtain ⟨x11_1,rfl,HA,HK1,BK279,HB⟩:=hrel
  cases gk with
  | zero=>exact absurd HA.out (by simp [impl_PrgOk.l0])
  | succ k1=>
   have H:=HA.out
   clear HA
   simp only [impl_PrgOk.l0] at H
   by_cases c4:x11_1<(l0_1.length:Int)
   ·rw [if_pos c4] at H
    have c4b0:decide (x11_1<(l0_1.length:Int))=true:=decide_eq_true c4
    clear c4
    by_cases c5:0≤x11_1
    ·rw [if_pos c5] at H
     have c5b0:decide (0≤x11_1)=true:=decide_eq_true c5
     clear c5
     by_cases c6:x11_1<(l0_1.length:Int)
     ·rw [if_pos c6] at H
      have c6b0:decide (x11_1<(l0_1.length:Int))=true:=decide_eq_true c6
      clear c6
      have HC7:=Aside0.mk H
      clear H
      have p281:0≤(x11_1:Int):=of_decide_eq_true qz7
      have q281:x11_1<(l0_1.length:Int):=of_decide_eq_true qz7
      obtain ⟨ad281,e281,hx281_0,hx281_1,hx281_2⟩:=at_T88 HR0_1.out x11_1 p281 q281
      cases e281
      replace hx281_0:=(HB.out.cell (World.block_lt_of_cell? w _ hx281_0)).trans hx281_0
      replace hx281_1:=(HB.out.cell (World.block_lt_of_cell? w _ hx281_1)).trans hx281_1
      replace hx281_2:=(HB.out.cell (World.block_lt_of_cell? w _ hx281_2)).trans hx281_2
      replace p281:=eq_true p281
      replace q281:=eq_true q281
      go_upto_region 4 with (first|((with_reducible refine gate_dst (N:=4) rfl ?_);(try (refine gate_guard (by rfl) ?_;dsimp only));refine box_event ?hg (N:=4) ?hd (cs:=#[.string (⟨#[]⟩:ByteArray),.int .i64 0,.int .i64 0]) (t:=88) ?hr ?_;(case hd=>rfl);(case hg=>rfl);(case hr=>first|(go_simp;done)|(go_simp;rfl));intro gb282 hg w8 hbox hb;have n0_:=Aside0.mk (blk_below (g:=gb279) (o:=.cells #[.slice A0_0 l0_0.length c0_0,.slice (some ad281) l0_1.length c0_1] 33 (0,0)) qz31 hb);have n1_:=Aside0.mk (below_step qz63 hb);have n2_:=Aside0.mk (hbox);have n3_:=Aside0.mk ((by rw [hg];exact (below_size qz63):w.heap.size≤gb282));have n4_:=Aside0.mk ((by rw [hg];exact (below_size qz63):w.heap.size≤gb282));have n5_:=Aside0.mk ((by rw [hg];exact Nat.ne_of_lt (blk_lt (g:=gb279) (o:=.cells #[.slice A0_0 l0_0.length c0_0,.slice (some ad281) l0_1.length c0_1] 33 (0,0)) qz31):gb279≠gb282));have n6_:=Aside0.mk ((by rw [hg];exact Nat.ne_of_gt (blk_lt (g:=gb279) (o:=.cells #[.slice A0_0 l0_0.length c0_0,.slice (some ad281) l0_1.length c0_1] 33 (0,0)) qz31):gb282≠gb279));clear BK279 HB;have BK279:=n0_;have HB:=n1_;have BK282:=n2_;have GW282:=n3_;have GE282:=n4_;have NB279_282:=n5_;have NB282_279:=n6_;clear n0_ n1_ n2_ n3_ n4_ n5_ n6_ hb hbox hg;have hnb9:=NB282_279.out;have hnc9:=NB279_282.out;have hcz10_0:w8.cell? ⟨gb282,0,none⟩=some (.string (⟨#[]⟩:ByteArray)):=(blk_cell BK282.out 0).trans rfl;have hcz10_1:w8.cell? ⟨gb282,1,none⟩=some (.int .i64 0):=(blk_cell BK282.out 1).trans rfl;have hcz10_2:w8.cell? ⟨gb282,2,none⟩=some (.int .i64 0):=(blk_cell BK282.out 2).trans rfl;have hfz10_0:=blk_frozen BK282.out 0;have hfz10_1:=blk_frozen BK282.out 1;have hfz10_2:=blk_frozen BK282.out 2))
      (try simp only [Act.put,List.setIfInBounds_toArray,List.set_cons_zero,List.set_cons_succ])
      go_cut [31] (fun v31 wc=>∃ (kq:Nat) (x31_6:Bool),v31 = .bool x31_6∧Aside0 (impl_PrgOk.j1 kq x11_1 l0_1 (l0_1.length:Int) x11_1 x31_6 l0_0 l0_1 ((rd_T88 l0_1 x11_1).f0) ((rd_T88 l0_1 x11_1).f1) ((rd_T88 l0_1 x11_1).f2)=some r)∧Aside0 (kq≤k1)∧Aside0 (wc.heap[gb279]?=some (.cells #[(.slice A0_0 l0_0.length c0_0),(.slice (some ad281) l0_1.length c0_1)] 33 (0,0)))∧Aside0 (wc.heap[gb282]?=some (.cells #[.string ((rd_T88 l0_1 x11_1).f0),.int .i64 ((rd_T88 l0_1 x11_1).f1),.int .i64 ((rd_T88 l0_1 x11_1).f2)] 88 (0,0)))∧Aside0 (Below w.heap.size w wc))
      case first=>
       have H:=HC7.out
       clear HC7
       replace H:=Option.bind_eq_some_iff.mp H
       obtain ⟨t283,A110,H⟩:=H
       try dsimp only at H
       have A11:=Aside0.mk A110
       clear A110
       by_cases c12:t283=true
       ·subst c12
        have H1:((impl_in.f ((rd_T88 l0_1 x11_1).f1) 0 3).bind fun t284=>(if t284=true then ((impl_in.f ((rd_T88 l0_1 x11_1).f2) 1 2).bind fun t285=>(impl_PrgOk.j1 k1 x11_1 l0_1 (l0_1.length:Int) x11_1 (!t285) l0_0 l0_1 ((rd_T88 l0_1 x11_1).f0) ((rd_T88 l0_1 x11_1).f1) ((rd_T88 l0_1 x11_1).f2))) else (impl_PrgOk.j1 k1 x11_1 l0_1 (l0_1.length:Int) x11_1 true l0_0 l0_1 ((rd_T88 l0_1 x11_1).f0) ((rd_T88 l0_1 x11_1).f1) ((rd_T88 l0_1 x11_1).f2))))=some r:=qz51
        clear H
        have H:=H1
        clear H1
        replace H:=Option.bind_eq_some_iff.mp H
        obtain ⟨t284,A130,H⟩:=H
        try dsimp only at H
        have A13:=Aside0.mk A130
        clear A130
        by_cases c14:t284=true
        ·subst c14
         have H1:((impl_in.f ((rd_T88 l0_1 x11_1).f2) 1 2).bind fun t285=>(impl_PrgOk.j1 k1 x11_1 l0_1 (l0_1.length:Int) x11_1 (!t285) l0_0 l0_1 ((rd_T88 l0_1 x11_1).f0) ((rd_T88 l0_1 x11_1).f1) ((rd_T88 l0_1 x11_1).f2)))=some r:=qz51
         clear H
         have H:=H1
         clear H1
         replace H:=Option.bind_eq_some_iff.mp H
         obtain ⟨t285,A150,H⟩:=H
         try dsimp only at H
         have A15:=Aside0.mk A150
         clear A150
         have H':=Aside0.mk H
         clear H
         have hnb16:=NB282_279.out
         have hnc16:=NB279_282.out
         have hcz17_0:w8.cell? ⟨gb282,0,none⟩=some (.string (⟨#[]⟩:ByteArray)):=(blk_cell BK282.out 0).trans rfl
         have hcz17_1:w8.cell? ⟨gb282,1,none⟩=some (.int .i64 0):=(blk_cell BK282.out 1).trans rfl
         have hcz17_2:w8.cell? ⟨gb282,2,none⟩=some (.int .i64 0):=(blk_cell BK282.out 2).trans rfl
         have hfz17_0:=blk_frozen BK282.out 0
         have hfz17_1:=blk_frozen BK282.out 1
         have hfz17_2:=blk_frozen BK282.out 2
         go_wp2_with (first|((with_reducible refine gate_callee (f:=57) rfl ?_);refine goesL_ (some 18) rfl rfl Tryd.func57 (by kernel_rfl) rfl #[.string ((rd_T88 l0_1 x11_1).f0)] rfl qz2 ?_;(with_reducible refine (impl_nameOk.calls ((rd_T88 l0_1 x11_1).f0) true _ A11.out).mono ?_);rintro e w18 ⟨rfl,hb⟩;refine ⟨_,rfl,?_⟩;have n0_:=Aside0.mk (blk_below (g:=gb279) (o:=.cells #[.slice A0_0 l0_0.length c0_0,.slice (some ad281) l0_1.length c0_1] 33 (0,0)) qz70 hb);have n1_:=Aside0.mk (blk_below (g:=gb282) (o:=.cells #[.string ((rd_T88 l0_1 x11_1).f0),.int .i64 ((rd_T88 l0_1 x11_1).f1),.int .i64 ((rd_T88 l0_1 x11_1).f2)] 88 (0,0)) qz50 hb);have n2_:=Aside0.mk (below_step qz19 hb);clear BK279 BK282 HB;have BK279:=n0_;have BK282:=n1_;have HB:=n2_;clear n0_ n1_ n2_;(try clear hb);(try clear hb2);(try clear hk);(try clear hi);have hcz19_0:w18.cell? ⟨gb282,0,none⟩=some (.string ((rd_T88 l0_1 x11_1).f0)):=(blk_cell BK282.out 0).trans rfl;have hcz19_1:w18.cell? ⟨gb282,1,none⟩=some (.int .i64 ((rd_T88 l0_1 x11_1).f1)):=(blk_cell BK282.out 1).trans rfl;have hcz19_2:w18.cell? ⟨gb282,2,none⟩=some (.int .i64 ((rd_T88 l0_1 x11_1).f2)):=(blk_cell BK282.out 2).trans rfl;have hfz19_0:=blk_frozen BK282.out 0;have hfz19_1:=blk_frozen BK282.out 1;have hfz19_2:=blk_frozen BK282.out 2)|(go_at_call 58;(with_reducible refine (impl_in.calls ((rd_T88 l0_1 x11_1).f1) 0 3 true _ A13.out).mono ?_);rintro e w' ⟨rfl,⟨nd,rfl⟩⟩)|(go_at_call 58;(with_reducible refine (impl_in.calls ((rd_T88 l0_1 x11_1).f2) 1 2 t285 _ A15.out).mono ?_);rintro e w' ⟨rfl,⟨nd,rfl⟩⟩))
         go_meet
         case rel=>exact ⟨_,(!t285),qz12,H',⟨qz145⟩,⟨qz31⟩,⟨qz53⟩,⟨qz19⟩⟩
        ·replace c14:=Bool.eq_false_iff.mpr c14
         subst c14
         have H1:(impl_PrgOk.j1 k1 x11_1 l0_1 (l0_1.length:Int) x11_1 true l0_0 l0_1 ((rd_T88 l0_1 x11_1).f0) ((rd_T88 l0_1 x11_1).f1) ((rd_T88 l0_1 x11_1).f2))=some r:=qz23
         clear H
         have H:=H1
         clear H1
         have H':=Aside0.mk H
         clear H
         have hnb20:=NB282_279.out
         have hnc20:=NB279_282.out
         have hcz21_0:w8.cell? ⟨gb282,0,none⟩=some (.string (⟨#[]⟩:ByteArray)):=(blk_cell BK282.out 0).trans rfl
         have hcz21_1:w8.cell? ⟨gb282,1,none⟩=some (.int .i64 0):=(blk_cell BK282.out 1).trans rfl
         have hcz21_2:w8.cell? ⟨gb282,2,none⟩=some (.int .i64 0):=(blk_cell BK282.out 2).trans rfl
         have hfz21_0:=blk_frozen BK282.out 0
         have hfz21_1:=blk_frozen BK282.out 1
         have hfz21_2:=blk_frozen BK282.out 2
         go_wp2_with (first|((with_reducible refine gate_callee (f:=57) rfl ?_);refine goesL_ (some 18) rfl rfl Tryd.func57 (by kernel_rfl) rfl #[.string ((rd_T88 l0_1 x11_1).f0)] rfl qz2 ?_;(with_reducible refine (impl_nameOk.calls ((rd_T88 l0_1 x11_1).f0) true _ A11.out).mono ?_);rintro e w22 ⟨rfl,hb⟩;refine ⟨_,rfl,?_⟩;have n0_:=Aside0.mk (blk_below (g:=gb279) (o:=.cells #[.slice A0_0 l0_0.length c0_0,.slice (some ad281) l0_1.length c0_1] 33 (0,0)) qz70 hb);have n1_:=Aside0.mk (blk_below (g:=gb282) (o:=.cells #[.string ((rd_T88 l0_1 x11_1).f0),.int .i64 ((rd_T88 l0_1 x11_1).f1),.int .i64 ((rd_T88 l0_1 x11_1).f2)] 88 (0,0)) qz50 hb);have n2_:=Aside0.mk (below_step qz19 hb);clear BK279 BK282 HB;have BK279:=n0_;have BK282:=n1_;have HB:=n2_;clear n0_ n1_ n2_;(try clear hb);(try clear hb2);(try clear hk);(try clear hi);have hcz23_0:w22.cell? ⟨gb282,0,none⟩=some (.string ((rd_T88 l0_1 x11_1).f0)):=(blk_cell BK282.out 0).trans rfl;have hcz23_1:w22.cell? ⟨gb282,1,none⟩=some (.int .i64 ((rd_T88 l0_1 x11_1).f1)):=(blk_cell BK282.out 1).trans rfl;have hcz23_2:w22.cell? ⟨gb282,2,none⟩=some (.int .i64 ((rd_T88 l0_1 x11_1).f2)):=(blk_cell BK282.out 2).trans rfl;have hfz23_0:=blk_frozen BK282.out 0;have hfz23_1:=blk_frozen BK282.out 1;have hfz23_2:=blk_frozen BK282.out 2)|(go_at_call 58;(with_reducible refine (impl_in.calls ((rd_T88 l0_1 x11_1).f1) 0 3 false _ A13.out).mono ?_);rintro e w' ⟨rfl,⟨nd,rfl⟩⟩))
         go_meet
         case rel=>exact ⟨_,(true),qz12,H',⟨qz145⟩,⟨qz31⟩,⟨qz53⟩,⟨qz19⟩⟩
       ·replace c12:=Bool.eq_false_iff.mpr c12
        subst c12
        have H1:(impl_PrgOk.j1 k1 x11_1 l0_1 (l0_1.length:Int) x11_1 true l0_0 l0_1 ((rd_T88 l0_1 x11_1).f0) ((rd_T88 l0_1 x11_1).f1) ((rd_T88 l0_1 x11_1).f2))=some r:=qz23
        clear H
        have H:=H1
        clear H1
        have H':=Aside0.mk H
        clear H
        have hnb24:=NB282_279.out
        have hnc24:=NB279_282.out
        have hcz25_0:w8.cell? ⟨gb282,0,none⟩=some (.string (⟨#[]⟩:ByteArray)):=(blk_cell BK282.out 0).trans rfl
        have hcz25_1:w8.cell? ⟨gb282,1,none⟩=some (.int .i64 0):=(blk_cell BK282.out 1).trans rfl
        have hcz25_2:w8.cell? ⟨gb282,2,none⟩=some (.int .i64 0):=(blk_cell BK282.out 2).trans rfl
        have hfz25_0:=blk_frozen BK282.out 0
        have hfz25_1:=blk_frozen BK282.out 1
        have hfz25_2:=blk_frozen BK282.out 2
        go_wp2_with (first|((with_reducible refine gate_callee (f:=57) rfl ?_);refine goesL_ (some 18) rfl rfl Tryd.func57 (by kernel_rfl) rfl #[.string ((rd_T88 l0_1 x11_1).f0)] rfl qz2 ?_;(with_reducible refine (impl_nameOk.calls ((rd_T88 l0_1 x11_1).f0) false _ A11.out).mono ?_);rintro e w26 ⟨rfl,hb⟩;refine ⟨_,rfl,?_⟩;have n0_:=Aside0.mk (blk_below (g:=gb279) (o:=.cells #[.slice A0_0 l0_0.length c0_0,.slice (some ad281) l0_1.length c0_1] 33 (0,0)) qz70 hb);have n1_:=Aside0.mk (blk_below (g:=gb282) (o:=.cells #[.string ((rd_T88 l0_1 x11_1).f0),.int .i64 ((rd_T88 l0_1 x11_1).f1),.int .i64 ((rd_T88 l0_1 x11_1).f2)] 88 (0,0)) qz50 hb);have n2_:=Aside0.mk (below_step qz19 hb);clear BK279 BK282 HB;have BK279:=n0_;have BK282:=n1_;have HB:=n2_;clear n0_ n1_ n2_;(try clear hb);(try clear hb2);(try clear hk);(try clear hi)))
        go_meet
        case rel=>exact ⟨_,(true),qz12,H',⟨qz145⟩,⟨qz31⟩,⟨qz53⟩,⟨qz19⟩⟩
      case rest=>
       clear HC7
       try clear c1
       try clear c2
       try clear p2
       try clear q2
       try clear hx2
       try clear c3
       try clear c4
       try clear c4b0
       try clear c5
       try clear c5b0
       try clear c6
       try clear c6b0
       try clear c9
       try clear c12
       try clear c14
       try clear c16
       try clear c20
       try clear c24
       try clear hcz10_0
       try clear hcz10_1
       try clear hcz10_2
       try clear hcz17_0
       try clear hcz17_1
       try clear hcz17_2
       try clear hcz19_0
       try clear hcz19_1
       try clear hcz19_2
       try clear hcz21_0
       try clear hcz21_1
       try clear hcz21_2
       try clear hcz23_0
       try clear hcz23_1
       try clear hcz23_2
       try clear hcz25_0
       try clear hcz25_1
       try clear hcz25_2
       try clear hcz3_0
       try clear hcz3_1
       try clear hfz10_0
       try clear hfz10_1
       try clear hfz10_2
       try clear hfz17_0
       try clear hfz17_1
       try clear hfz17_2
       try clear hfz19_0
       try clear hfz19_1
       try clear hfz19_2
       try clear hfz21_0
       try clear hfz21_1
       try clear hfz21_2
       try clear hfz23_0
       try clear hfz23_1
       try clear hfz23_2
       try clear hfz25_0
       try clear hfz25_1
       try clear hfz25_2
       try clear hfz3_0
       try clear hfz3_1
       try clear hx281_0
       try clear hx281_1
       try clear hx281_2
       try clear p2
       try clear p281
       try clear q281
       obtain ⟨kq,x31_6,rfl,HA,HJ6,BK279,BK282,HB⟩:=hcut
       cases kq with
       | zero=>exact absurd HA.out (by simp [impl_PrgOk.j1])
       | succ kj6=>
        have H:=HA.out
        clear HA
        simp only [impl_PrgOk.j1] at H
        by_cases c27:x31_6=true
        ·subst c27
         have H1:(some false)=some r:=qz51
         clear H
         have H:=H1
         clear H1
         obtain rfl:=Option.some.inj H
         go_wp2
         go_ret
         exact ⟨qz3,qz19⟩
        ·replace c27:=Bool.eq_false_iff.mpr c27
         subst c27
         have H1:(if 0≤x11_1 then (if x11_1≤(l0_1.length:Int) then ((some (l0_1.take (x11_1:Int).toNat:List (S88))).bind fun y286=>(impl_PrgOk.l1 kj6 l0_1 (l0_1.length:Int) x11_1 y286 (y286.length:Int) 0 l0_0 l0_1 ((rd_T88 l0_1 x11_1).f0) ((rd_T88 l0_1 x11_1).f1) ((rd_T88 l0_1 x11_1).f2))) else (none)) else (none))=some r:=qz23
         clear H
         have H:=H1
         clear H1
         by_cases c28:0≤x11_1
         ·rw [if_pos c28] at H
          have c28b0:=eq_true c28
          have c28b1:decide (0≤x11_1)=true:=decide_eq_true c28
          clear c28
          by_cases c29:x11_1≤(l0_1.length:Int)
          ·rw [if_pos c29] at H
           have c29b0:=eq_true c29
           have c29b1:decide (x11_1≤(l0_1.length:Int))=true:=decide_eq_true c29
           clear c29
           obtain ⟨y286,hy286⟩:∃ y_:List (S88),y_=(l0_1.take (x11_1:Int).toNat):=⟨_,rfl⟩
           replace H:(impl_PrgOk.l1 kj6 l0_1 (l0_1.length:Int) x11_1 y286 (y286.length:Int) 0 l0_0 l0_1 ((rd_T88 l0_1 x11_1).f0) ((rd_T88 l0_1 x11_1).f1) ((rd_T88 l0_1 x11_1).f2))=some r:=by first|(rw [hy286];exact H)|exact H
           have Ny286:=Aside0.mk hy286
           clear hy286
           have H':=Aside0.mk H
           clear H
           have hnb30:=NB279_282.out
           have hnc30:=NB282_279.out
           have hcz31_0:wc.cell? ⟨gb279,0,none⟩=some (.slice A0_0 l0_0.length c0_0):=(blk_cell BK279.out 0).trans rfl
           have hcz31_1:wc.cell? ⟨gb279,1,none⟩=some (.slice (some ad281) l0_1.length c0_1):=(blk_cell BK279.out 1).trans rfl
           have hfz31_0:=blk_frozen BK279.out 0
           have hfz31_1:=blk_frozen BK279.out 1
           have q32:(x11_1:Int)≤((l0_1.length:Int):Int):=of_decide_eq_true qz7
           obtain ⟨i032,hi032,_,hsz32,_⟩:=info_parts info88
           have hroom32:l0_1.length≤c0_1:=HC0_1.out
           have hC32:Kd.C k88 _ (some ad281) l0_1.length l0_1:=HR0_1.out
           have hcut32:=cut_to (P:=Tryd.prog) 31 88 .i64 Tryd.underlying31 hi032 (some ad281) l0_1.length c0_1 x11_1 (of_decide_eq_true qz7) q32 hroom32
           have hr32:=Kd.C_take (m:=(x11_1:Int).toNat) hC32 (by omega)
           have hy32:y286.length=(x11_1:Int).toNat:=(by rw [Ny286.out,List.length_take];omega)
           rw [← Ny286.out] at hr32
           rw [← hy32] at hcut32
           have HR289:=Aside0.mk hr32
           have HC289:=Aside0.mk (show y286.length≤c0_1 from by omega)
           clear hr32 hC32 hroom32 hi032 hsz32
           have KY32:=Aside0.mk hy32
           clear hy32
           replace q32:=eq_true q32
           go_wp2
           go_loopg [37] kj6 (fun kq v37 w'=>∃ (x37_3:Int),v37 = .int .i64 x37_3∧Aside0 (impl_PrgOk.l1 kq l0_1 (l0_1.length:Int) x11_1 y286 (y286.length:Int) x37_3 l0_0 l0_1 ((rd_T88 l0_1 x11_1).f0) ((rd_T88 l0_1 x11_1).f1) ((rd_T88 l0_1 x11_1).f2)=some r)∧Aside0 (kq≤kj6)∧Aside0 (w'.heap[gb279]?=some (.cells #[(.slice A0_0 l0_0.length c0_0),(.slice (some ad281) l0_1.length c0_1)] 33 (0,0)))∧Aside0 (w'.heap[gb282]?=some (.cells #[.string ((rd_T88 l0_1 x11_1).f0),.int .i64 ((rd_T88 l0_1 x11_1).f1),.int .i64 ((rd_T88 l0_1 x11_1).f2)] 88 (0,0)))∧Aside0 (Below w.heap.size w w'))
           case atStart=>exact ⟨(0),qz12,H',⟨Nat.le_refl _⟩,⟨qz31⟩,⟨qz53⟩,⟨qz19⟩⟩
           case round=>
            clear H'
            try clear c1
            try clear c2
            try clear p2
            try clear q2
            try clear hx2
            try clear c3
            try clear q3
            try clear c4
            try clear c4b0
            try clear c5
            try clear c5b0
            try clear c6
            try clear c6b0
            try clear c9
            try clear c12
            try clear c14
            try clear c16
            try clear c20
            try clear c24
            try clear c27
            try clear c28
            try clear c28b0
            try clear c28b1
            try clear p28
            try clear q28
            try clear hx28
            try clear c29
            try clear c29b0
            try clear c29b1
            try clear c30
            try clear q32
            try clear hcz10_0
            try clear hcz10_1
            try clear hcz10_2
            try clear hcz17_0
            try clear hcz17_1
            try clear hcz17_2
            try clear hcz19_0
            try clear hcz19_1
            try clear hcz19_2
            try clear hcz21_0
            try clear hcz21_1
            try clear hcz21_2
            try clear hcz23_0
            try clear hcz23_1
            try clear hcz23_2
            try clear hcz25_0
            try clear hcz25_1
            try clear hcz25_2
            try clear hcz31_0
            try clear hcz31_1
            try clear hcz3_0
            try clear hcz3_1
            try clear hfz10_0
            try clear hfz10_1
            try clear hfz10_2
            try clear hfz17_0
            try clear hfz17_1
            try clear hfz17_2
            try clear hfz19_0
            try clear hfz19_1
            try clear hfz19_2
            try clear hfz21_0
            try clear hfz21_1
            try clear hfz21_2
            try clear hfz23_0
            try clear hfz23_1
            try clear hfz23_2
            try clear hfz25_0
            try clear hfz25_1
            try clear hfz25_2
            try clear hfz31_0
            try clear hfz31_1
            try clear hfz3_0
            try clear hfz3_1
            try clear hx281_0
            try clear hx281_1
            try clear hx281_2
            try clear p2
            try clear p281
            try clear q2
            try clear q281
            try clear q32
            obtain ⟨x37_3,rfl,HA,HK3,BK279,BK282,HB⟩:=hrel
            cases gk with
            | zero=>exact absurd HA.out (by simp [impl_PrgOk.l1])
            | succ k3=>
             have H:=HA.out
             clear HA
             simp only [impl_PrgOk.l1] at H
             by_cases c33:x37_3<(y286.length:Int)
             ·rw [if_pos c33] at H
              have c33b0:decide (x37_3<(y286.length:Int))=true:=decide_eq_true c33
              clear c33
              by_cases c34:0≤x37_3
              ·rw [if_pos c34] at H
               have c34b0:decide (0≤x37_3)=true:=decide_eq_true c34
               clear c34
               by_cases c35:x37_3<(y286.length:Int)
               ·rw [if_pos c35] at H
                have c35b0:decide (x37_3<(y286.length:Int))=true:=decide_eq_true c35
                clear c35
                by_cases c36:((rd_T88 l0_1 x11_1).f0).toList=((rd_T88 y286 x37_3).f0).toList
                ·rw [if_pos c36] at H
                 have c36b0:(((rd_T88 l0_1 x11_1).f0).toList == ((rd_T88 y286 x37_3).f0).toList)=true:=beq_iff_eq.mpr c36
                 have c36b1:(((rd_T88 l0_1 x11_1).f0).toList != ((rd_T88 y286 x37_3).f0).toList)=false:=bne_eq_false_iff_eq.mpr c36
                 clear c36
                 by_cases c37:((rd_T88 l0_1 x11_1).f1)=((rd_T88 y286 x37_3).f1)
                 ·rw [if_pos c37] at H
                  have c37b0:(((rd_T88 l0_1 x11_1).f1) == ((rd_T88 y286 x37_3).f1))=true:=beq_iff_eq.mpr c37
                  have c37b1:(((rd_T88 l0_1 x11_1).f1) != ((rd_T88 y286 x37_3).f1))=false:=bne_eq_false_iff_eq.mpr c37
                  clear c37
                  obtain rfl:=Option.some.inj H
                  have p290:0≤(x37_3:Int):=of_decide_eq_true qz7
                  have q290:x37_3<(y286.length:Int):=of_decide_eq_true qz7
                  obtain ⟨ad290,e290,hx290_0,hx290_1,hx290_2⟩:=at_T88 HR289.out x37_3 p290 q290
                  obtain rfl:ad281=ad290:=(by injection e290)
                  replace hx290_0:=(HB.out.cell (World.block_lt_of_cell? w _ hx290_0)).trans hx290_0
                  replace hx290_1:=(HB.out.cell (World.block_lt_of_cell? w _ hx290_1)).trans hx290_1
                  replace hx290_2:=(HB.out.cell (World.block_lt_of_cell? w _ hx290_2)).trans hx290_2
                  replace p290:=eq_true p290
                  replace q290:=eq_true q290
                  go_wp2_with (first|((with_reducible refine gate_dst (N:=6) rfl ?_);(try (refine gate_guard (by rfl) ?_;dsimp only));refine box_event ?hg (N:=6) ?hd (cs:=#[.string (⟨#[]⟩:ByteArray),.int .i64 0,.int .i64 0]) (t:=88) ?hr ?_;(case hd=>rfl);(case hg=>rfl);(case hr=>first|(go_simp;done)|(go_simp;rfl));intro gb291 hg w38 hbox hb;have n0_:=Aside0.mk (blk_below (g:=gb279) (o:=.cells #[.slice A0_0 l0_0.length c0_0,.slice (some ad281) l0_1.length c0_1] 33 (0,0)) qz31 hb);have n1_:=Aside0.mk (blk_below (g:=gb282) (o:=.cells #[.string ((rd_T88 l0_1 x11_1).f0),.int .i64 ((rd_T88 l0_1 x11_1).f1),.int .i64 ((rd_T88 l0_1 x11_1).f2)] 88 (0,0)) qz53 hb);have n2_:=Aside0.mk (below_step qz19 hb);have n3_:=Aside0.mk (hbox);have n4_:=Aside0.mk ((by rw [hg];exact (below_size qz19):w.heap.size≤gb291));have n5_:=Aside0.mk ((by rw [hg];exact (below_size qz19):w.heap.size≤gb291));have n6_:=Aside0.mk ((by rw [hg];exact Nat.ne_of_lt (blk_lt (g:=gb279) (o:=.cells #[.slice A0_0 l0_0.length c0_0,.slice (some ad281) l0_1.length c0_1] 33 (0,0)) qz31):gb279≠gb291));have n7_:=Aside0.mk ((by rw [hg];exact Nat.ne_of_gt (blk_lt (g:=gb279) (o:=.cells #[.slice A0_0 l0_0.length c0_0,.slice (some ad281) l0_1.length c0_1] 33 (0,0)) qz31):gb291≠gb279));have n8_:=Aside0.mk ((by rw [hg];exact Nat.ne_of_lt (blk_lt (g:=gb282) (o:=.cells #[.string ((rd_T88 l0_1 x11_1).f0),.int .i64 ((rd_T88 l0_1 x11_1).f1),.int .i64 ((rd_T88 l0_1 x11_1).f2)] 88 (0,0)) qz53):gb282≠gb291));have n9_:=Aside0.mk ((by rw [hg];exact Nat.ne_of_gt (blk_lt (g:=gb282) (o:=.cells #[.string ((rd_T88 l0_1 x11_1).f0),.int .i64 ((rd_T88 l0_1 x11_1).f1),.int .i64 ((rd_T88 l0_1 x11_1).f2)] 88 (0,0)) qz53):gb291≠gb282));clear BK279 BK282 HB;have BK279:=n0_;have BK282:=n1_;have HB:=n2_;have BK291:=n3_;have GW291:=n4_;have GE291:=n5_;have NB279_291:=n6_;have NB291_279:=n7_;have NB282_291:=n8_;have NB291_282:=n9_;clear n0_ n1_ n2_ n3_ n4_ n5_ n6_ n7_ n8_ n9_ hb hbox hg;have hnb39:=NB291_279.out;have hnc39:=NB279_291.out;have hnb40:=NB291_282.out;have hnc40:=NB282_291.out;have hcz41_0:w38.cell? ⟨gb291,0,none⟩=some (.string (⟨#[]⟩:ByteArray)):=(blk_cell BK291.out 0).trans rfl;have hcz41_1:w38.cell? ⟨gb291,1,none⟩=some (.int .i64 0):=(blk_cell BK291.out 1).trans rfl;have hcz41_2:w38.cell? ⟨gb291,2,none⟩=some (.int .i64 0):=(blk_cell BK291.out 2).trans rfl;have hfz41_0:=blk_frozen BK291.out 0;have hfz41_1:=blk_frozen BK291.out 1;have hfz41_2:=blk_frozen BK291.out 2;have hnb42:=NB282_279.out;have hnc42:=NB279_282.out;have hcz43_0:w38.cell? ⟨gb282,0,none⟩=some (.string ((rd_T88 l0_1 x11_1).f0)):=(blk_cell BK282.out 0).trans rfl;have hcz43_1:w38.cell? ⟨gb282,1,none⟩=some (.int .i64 ((rd_T88 l0_1 x11_1).f1)):=(blk_cell BK282.out 1).trans rfl;have hcz43_2:w38.cell? ⟨gb282,2,none⟩=some (.int .i64 ((rd_T88 l0_1 x11_1).f2)):=(blk_cell BK282.out 2).trans rfl;have hfz43_0:=blk_frozen BK282.out 0;have hfz43_1:=blk_frozen BK282.out 1;have hfz43_2:=blk_frozen BK282.out 2))
                  go_ret
                  exact ⟨qz3,qz109⟩
                 ·rw [if_neg c37] at H
                  have c37b0:(((rd_T88 l0_1 x11_1).f1) == ((rd_T88 y286 x37_3).f1))=false:=beq_eq_false_iff_ne.mpr c37
                  have c37b1:(((rd_T88 l0_1 x11_1).f1) != ((rd_T88 y286 x37_3).f1))=true:=bne_iff_ne.mpr c37
                  have H':=Aside0.mk H
                  clear H
                  have p290:0≤(x37_3:Int):=of_decide_eq_true qz7
                  have q290:x37_3<(y286.length:Int):=of_decide_eq_true qz7
                  obtain ⟨ad290,e290,hx290_0,hx290_1,hx290_2⟩:=at_T88 HR289.out x37_3 p290 q290
                  obtain rfl:ad281=ad290:=(by injection e290)
                  replace hx290_0:=(HB.out.cell (World.block_lt_of_cell? w _ hx290_0)).trans hx290_0
                  replace hx290_1:=(HB.out.cell (World.block_lt_of_cell? w _ hx290_1)).trans hx290_1
                  replace hx290_2:=(HB.out.cell (World.block_lt_of_cell? w _ hx290_2)).trans hx290_2
                  replace p290:=eq_true p290
                  replace q290:=eq_true q290
                  go_wp2_with (first|((with_reducible refine gate_dst (N:=6) rfl ?_);(try (refine gate_guard (by rfl) ?_;dsimp only));refine box_event ?hg (N:=6) ?hd (cs:=#[.string (⟨#[]⟩:ByteArray),.int .i64 0,.int .i64 0]) (t:=88) ?hr ?_;(case hd=>rfl);(case hg=>rfl);(case hr=>first|(go_simp;done)|(go_simp;rfl));intro gb291 hg w44 hbox hb;have n0_:=Aside0.mk (blk_below (g:=gb279) (o:=.cells #[.slice A0_0 l0_0.length c0_0,.slice (some ad281) l0_1.length c0_1] 33 (0,0)) qz31 hb);have n1_:=Aside0.mk (blk_below (g:=gb282) (o:=.cells #[.string ((rd_T88 l0_1 x11_1).f0),.int .i64 ((rd_T88 l0_1 x11_1).f1),.int .i64 ((rd_T88 l0_1 x11_1).f2)] 88 (0,0)) qz53 hb);have n2_:=Aside0.mk (below_step qz19 hb);have n3_:=Aside0.mk (hbox);have n4_:=Aside0.mk ((by rw [hg];exact (below_size qz19):w.heap.size≤gb291));have n5_:=Aside0.mk ((by rw [hg];exact (below_size qz19):w.heap.size≤gb291));have n6_:=Aside0.mk ((by rw [hg];exact Nat.ne_of_lt (blk_lt (g:=gb279) (o:=.cells #[.slice A0_0 l0_0.length c0_0,.slice (some ad281) l0_1.length c0_1] 33 (0,0)) qz31):gb279≠gb291));have n7_:=Aside0.mk ((by rw [hg];exact Nat.ne_of_gt (blk_lt (g:=gb279) (o:=.cells #[.slice A0_0 l0_0.length c0_0,.slice (some ad281) l0_1.length c0_1] 33 (0,0)) qz31):gb291≠gb279));have n8_:=Aside0.mk ((by rw [hg];exact Nat.ne_of_lt (blk_lt (g:=gb282) (o:=.cells #[.string ((rd_T88 l0_1 x11_1).f0),.int .i64 ((rd_T88 l0_1 x11_1).f1),.int .i64 ((rd_T88 l0_1 x11_1).f2)] 88 (0,0)) qz53):gb282≠gb291));have n9_:=Aside0.mk ((by rw [hg];exact Nat.ne_of_gt (blk_lt (g:=gb282) (o:=.cells #[.string ((rd_T88 l0_1 x11_1).f0),.int .i64 ((rd_T88 l0_1 x11_1).f1),.int .i64 ((rd_T88 l0_1 x11_1).f2)] 88 (0,0)) qz53):gb291≠gb282));clear BK279 BK282 HB;have BK279:=n0_;have BK282:=n1_;have HB:=n2_;have BK291:=n3_;have GW291:=n4_;have GE291:=n5_;have NB279_291:=n6_;have NB291_279:=n7_;have NB282_291:=n8_;have NB291_282:=n9_;clear n0_ n1_ n2_ n3_ n4_ n5_ n6_ n7_ n8_ n9_ hb hbox hg;have hnb45:=NB291_279.out;have hnc45:=NB279_291.out;have hnb46:=NB291_282.out;have hnc46:=NB282_291.out;have hcz47_0:w44.cell? ⟨gb291,0,none⟩=some (.string (⟨#[]⟩:ByteArray)):=(blk_cell BK291.out 0).trans rfl;have hcz47_1:w44.cell? ⟨gb291,1,none⟩=some (.int .i64 0):=(blk_cell BK291.out 1).trans rfl;have hcz47_2:w44.cell? ⟨gb291,2,none⟩=some (.int .i64 0):=(blk_cell BK291.out 2).trans rfl;have hfz47_0:=blk_frozen BK291.out 0;have hfz47_1:=blk_frozen BK291.out 1;have hfz47_2:=blk_frozen BK291.out 2;have hnb48:=NB282_279.out;have hnc48:=NB279_282.out;have hcz49_0:w44.cell? ⟨gb282,0,none⟩=some (.string ((rd_T88 l0_1 x11_1).f0)):=(blk_cell BK282.out 0).trans rfl;have hcz49_1:w44.cell? ⟨gb282,1,none⟩=some (.int .i64 ((rd_T88 l0_1 x11_1).f1)):=(blk_cell BK282.out 1).trans rfl;have hcz49_2:w44.cell? ⟨gb282,2,none⟩=some (.int .i64 ((rd_T88 l0_1 x11_1).f2)):=(blk_cell BK282.out 2).trans rfl;have hfz49_0:=blk_frozen BK282.out 0;have hfz49_1:=blk_frozen BK282.out 1;have hfz49_2:=blk_frozen BK282.out 2))
                  go_roundg k3
                  case measure=>have:=HK1.out;have:=HJ6.out;have:=HK3.out;omega
                  case rel=>exact ⟨(wrap64 (x37_3+1)),qz12,H',⟨by have:=HK1.out;have:=HJ6.out;have:=HK3.out;omega⟩,⟨qz98⟩,⟨qz97⟩,⟨qz109⟩⟩
                ·rw [if_neg c36] at H
                 have c36b0:(((rd_T88 l0_1 x11_1).f0).toList == ((rd_T88 y286 x37_3).f0).toList)=false:=beq_eq_false_iff_ne.mpr c36
                 have c36b1:(((rd_T88 l0_1 x11_1).f0).toList != ((rd_T88 y286 x37_3).f0).toList)=true:=bne_iff_ne.mpr c36
                 have H':=Aside0.mk H
                 clear H
                 have p290:0≤(x37_3:Int):=of_decide_eq_true qz7
                 have q290:x37_3<(y286.length:Int):=of_decide_eq_true qz7
                 obtain ⟨ad290,e290,hx290_0,hx290_1,hx290_2⟩:=at_T88 HR289.out x37_3 p290 q290
                 obtain rfl:ad281=ad290:=(by injection e290)
                 replace hx290_0:=(HB.out.cell (World.block_lt_of_cell? w _ hx290_0)).trans hx290_0
                 replace hx290_1:=(HB.out.cell (World.block_lt_of_cell? w _ hx290_1)).trans hx290_1
                 replace hx290_2:=(HB.out.cell (World.block_lt_of_cell? w _ hx290_2)).trans hx290_2
                 replace p290:=eq_true p290
                 replace q290:=eq_true q290
                 go_wp2_with (first|((with_reducible refine gate_dst (N:=6) rfl ?_);(try (refine gate_guard (by rfl) ?_;dsimp only));refine box_event ?hg (N:=6) ?hd (cs:=#[.string (⟨#[]⟩:ByteArray),.int .i64 0,.int .i64 0]) (t:=88) ?hr ?_;(case hd=>rfl);(case hg=>rfl);(case hr=>first|(go_simp;done)|(go_simp;rfl));intro gb291 hg w50 hbox hb;have n0_:=Aside0.mk (blk_below (g:=gb279) (o:=.cells #[.slice A0_0 l0_0.length c0_0,.slice (some ad281) l0_1.length c0_1] 33 (0,0)) qz31 hb);have n1_:=Aside0.mk (blk_below (g:=gb282) (o:=.cells #[.string ((rd_T88 l0_1 x11_1).f0),.int .i64 ((rd_T88 l0_1 x11_1).f1),.int .i64 ((rd_T88 l0_1 x11_1).f2)] 88 (0,0)) qz53 hb);have n2_:=Aside0.mk (below_step qz19 hb);have n3_:=Aside0.mk (hbox);have n4_:=Aside0.mk ((by rw [hg];exact (below_size qz19):w.heap.size≤gb291));have n5_:=Aside0.mk ((by rw [hg];exact (below_size qz19):w.heap.size≤gb291));have n6_:=Aside0.mk ((by rw [hg];exact Nat.ne_of_lt (blk_lt (g:=gb279) (o:=.cells #[.slice A0_0 l0_0.length c0_0,.slice (some ad281) l0_1.length c0_1] 33 (0,0)) qz31):gb279≠gb291));have n7_:=Aside0.mk ((by rw [hg];exact Nat.ne_of_gt (blk_lt (g:=gb279) (o:=.cells #[.slice A0_0 l0_0.length c0_0,.slice (some ad281) l0_1.length c0_1] 33 (0,0)) qz31):gb291≠gb279));have n8_:=Aside0.mk ((by rw [hg];exact Nat.ne_of_lt (blk_lt (g:=gb282) (o:=.cells #[.string ((rd_T88 l0_1 x11_1).f0),.int .i64 ((rd_T88 l0_1 x11_1).f1),.int .i64 ((rd_T88 l0_1 x11_1).f2)] 88 (0,0)) qz53):gb282≠gb291));have n9_:=Aside0.mk ((by rw [hg];exact Nat.ne_of_gt (blk_lt (g:=gb282) (o:=.cells #[.string ((rd_T88 l0_1 x11_1).f0),.int .i64 ((rd_T88 l0_1 x11_1).f1),.int .i64 ((rd_T88 l0_1 x11_1).f2)] 88 (0,0)) qz53):gb291≠gb282));clear BK279 BK282 HB;have BK279:=n0_;have BK282:=n1_;have HB:=n2_;have BK291:=n3_;have GW291:=n4_;have GE291:=n5_;have NB279_291:=n6_;have NB291_279:=n7_;have NB282_291:=n8_;have NB291_282:=n9_;clear n0_ n1_ n2_ n3_ n4_ n5_ n6_ n7_ n8_ n9_ hb hbox hg;have hnb51:=NB291_279.out;have hnc51:=NB279_291.out;have hnb52:=NB291_282.out;have hnc52:=NB282_291.out;have hcz53_0:w50.cell? ⟨gb291,0,none⟩=some (.string (⟨#[]⟩:ByteArray)):=(blk_cell BK291.out 0).trans rfl;have hcz53_1:w50.cell? ⟨gb291,1,none⟩=some (.int .i64 0):=(blk_cell BK291.out 1).trans rfl;have hcz53_2:w50.cell? ⟨gb291,2,none⟩=some (.int .i64 0):=(blk_cell BK291.out 2).trans rfl;have hfz53_0:=blk_frozen BK291.out 0;have hfz53_1:=blk_frozen BK291.out 1;have hfz53_2:=blk_frozen BK291.out 2;have hnb54:=NB282_279.out;have hnc54:=NB279_282.out;have hcz55_0:w50.cell? ⟨gb282,0,none⟩=some (.string ((rd_T88 l0_1 x11_1).f0)):=(blk_cell BK282.out 0).trans rfl;have hcz55_1:w50.cell? ⟨gb282,1,none⟩=some (.int .i64 ((rd_T88 l0_1 x11_1).f1)):=(blk_cell BK282.out 1).trans rfl;have hcz55_2:w50.cell? ⟨gb282,2,none⟩=some (.int .i64 ((rd_T88 l0_1 x11_1).f2)):=(blk_cell BK282.out 2).trans rfl;have hfz55_0:=blk_frozen BK282.out 0;have hfz55_1:=blk_frozen BK282.out 1;have hfz55_2:=blk_frozen BK282.out 2))
                 go_roundg k3
                 case measure=>have:=HK1.out;have:=HJ6.out;have:=HK3.out;omega
                 case rel=>exact ⟨(wrap64 (x37_3+1)),qz12,H',⟨by have:=HK1.out;have:=HJ6.out;have:=HK3.out;omega⟩,⟨qz98⟩,⟨qz97⟩,⟨qz109⟩⟩
               ·rw [if_neg c35] at H
                exact absurd H (by simp)
              ·rw [if_neg c34] at H
               exact absurd H (by simp)
             ·rw [if_neg c33] at H
              have c33b0:decide (x37_3<(y286.length:Int))=false:=decide_eq_false c33
              clear c33
              have H':=Aside0.mk H
              clear H
              go_wp2
              go_roundg k3
              case measure=>have:=HK1.out;have:=HJ6.out;have:=HK3.out;omega
              case rel=>exact ⟨(wrap64 (x11_1+1)),qz12,H',⟨by have:=HK1.out;have:=HJ6.out;have:=HK3.out;omega⟩,⟨qz31⟩,⟨qz19⟩⟩
          ·rw [if_neg c29] at H
           exact absurd H (by simp)
         ·rw [if_neg c28] at H
          exact absurd H (by simp)
     ·rw [if_neg c6] at H
      exact absurd H (by simp)
    ·rw [if_neg c5] at H
     exact absurd H (by simp)
   ·rw [if_neg c4] at H
    have c4b0:decide (x11_1<(l0_1.length:Int))=false:=decide_eq_false c4
    clear c4
    by_cases c56:(l0_0.length:Int)≤12
    ·rw [if_pos c56] at H
     have c56b0:decide ((l0_0.length:Int)≤12)=true:=decide_eq_true c56
     have c56b1:decide (l0_0.length≤12)=true:=decide_eq_true (by omega)
     clear c56
     by_cases c57:(l0_1.length:Int)≤6
     ·rw [if_pos c57] at H
      have c57b0:decide ((l0_1.length:Int)≤6)=true:=decide_eq_true c57
      have c57b1:decide (l0_1.length≤6)=true:=decide_eq_true (by omega)
      clear c57
      replace H:=Option.bind_eq_some_iff.mp H
      obtain ⟨t280,A580,H⟩:=H
      try dsimp only at H
      have A58:=Aside0.mk A580
      clear A580
      obtain rfl:=Option.some.inj H
      have hcz59_0:wr.cell? ⟨gb279,0,none⟩=some (.slice A0_0 l0_0.length c0_0):=(blk_cell BK279.out 0).trans rfl
      have hcz59_1:wr.cell? ⟨gb279,1,none⟩=some (.slice A0_1 l0_1.length c0_1):=(blk_cell BK279.out 1).trans rfl
      have hfz59_0:=blk_frozen BK279.out 0
      have hfz59_1:=blk_frozen BK279.out 1
      go_wp2_with (first|(go_at_call 61;(with_reducible refine (slices_ContainsFunc_PrgClause.calls k1 _ _ l0_0 t280 _ ?side1 ?side2 A58.out).mono ?_);(case side1=>exact qz8);(case side2=>exact HC0_0.out);rintro e w60 ⟨rfl,hb⟩;have n0_:=Aside0.mk (blk_below (g:=gb279) (o:=.cells #[.slice A0_0 l0_0.length c0_0,.slice A0_1 l0_1.length c0_1] 33 (0,0)) qz31 hb);have n1_:=Aside0.mk (below_step qz63 hb);clear BK279 HB;have BK279:=n0_;have HB:=n1_;clear n0_ n1_;(try clear hb);(try clear hb2);(try clear hk);(try clear hi)))
      go_ret
      exact ⟨qz3,qz63⟩
     ·rw [if_neg c57] at H
      have c57b0:decide ((l0_1.length:Int)≤6)=false:=decide_eq_false c57
      have c57b1:decide (l0_1.length≤6)=false:=decide_eq_false (by omega)
      clear c57
      obtain rfl:=Option.some.inj H
      have hcz61_0:wr.cell? ⟨gb279,0,none⟩=some (.slice A0_0 l0_0.length c0_0):=(blk_cell BK279.out 0).trans rfl
      have hcz61_1:wr.cell? ⟨gb279,1,none⟩=some (.slice A0_1 l0_1.length c0_1):=(blk_cell BK279.out 1).trans rfl
      have hfz61_0:=blk_frozen BK279.out 0
      have hfz61_1:=blk_frozen BK279.out 1
      go_wp2
      go_ret
      exact ⟨qz3,qz63⟩
    ·rw [if_neg c56] at H
     have c56b0:decide ((l0_0.length:Int)≤12)=false:=decide_eq_false c56
     have c56b1:decide (l0_0.length≤12)=false:=decide_eq_false (by omega)
     clear c56
     obtain rfl:=Option.some.inj H
     have hcz62_0:wr.cell? ⟨gb279,0,none⟩=some (.slice A0_0 l0_0.length c0_0):=(blk_cell BK279.out 0).trans rfl
     have hcz62_1:wr.cell? ⟨gb279,1,none⟩=some (.slice A0_1 l0_1.length c0_1):=(blk_cell BK279.out 1).trans rfl
     have hfz62_0:=blk_frozen BK279.out 0
     have hfz62_1:=blk_frozen BK279.out 1
     go_wp2
     go_ret
     exact ⟨qz3,qz63⟩

/-! ### impl_PrgProg_node: function 38 -/
def impl_PrgProg_node.l0:Nat→List (S47)→List (S88)→Int→Int→Option (Int)
 | 0,_,_,_,_=>none
 | k+1,x1,x8,x9,x10=>if x10<x9 then (if 0≤x10 then (if x10<(x8.length:Int) then (if 0<(x1.length:Int) then (if ((rd_T88 x8 x10).f0).toList=((rd_T47 x1 0).f2).toList then (if ((rd_T88 x8 x10).f1)=((rd_T47 x1 0).f1) then (some ((rd_T88 x8 x10).f2)) else (impl_PrgProg_node.l0 k x1 x8 x9 (wrap64 (x10+1)))) else (impl_PrgProg_node.l0 k x1 x8 x9 (wrap64 (x10+1)))) else (none)) else (none)) else (none)) else (some 0)
def impl_PrgProg_node.f (k:Nat) (l0_0:List (S86)) (l0_1:List (S88)) (l1:List (S47)):Option (Int):=impl_PrgProg_node.l0 k l1 l0_1 (l0_1.length:Int) 0
set_option maxHeartbeats 8000000 in
set_option maxRecDepth 100000 in
theorem impl_PrgProg_node.calls (k:Nat) (A0_0:Option Addr) (c0_0:Nat) (l0_0:List (S86)) (A0_1:Option Addr) (c0_1:Nat) (l0_1:List (S88)) (A1:Option Addr) (c1:Nat) (l1:List (S47)) (r:Int) (w:World) (hr0_0:Kd.C k86 w A0_0 l0_0.length l0_0) (hc0_0:l0_0.length≤c0_0) (hr0_1:Kd.C k88 w A0_1 l0_1.length l0_1) (hc0_1:l0_1.length≤c0_1) (hr1:Kd.C k47 w A1 l1.length l1) (hc1:l1.length≤c1) (h:impl_PrgProg_node.f k l0_0 l0_1 l1=some r) :
  Calls Tryd.prog 38 #[.agg #[.slice A0_0 l0_0.length c0_0,.slice A0_1 l0_1.length c0_1],.slice A1 l1.length c1] w fun e w'=>e = .returned (.int .i64 r)∧Below w.heap.size w w':=by
 have hu33:=Tryd.underlying33
 have hu88:=Tryd.underlying88
 have HR0_0:=Aside0.mk hr0_0
 have HC0_0:=Aside0.mk hc0_0
 clear hr0_0 hc0_0
 have HR0_1:=Aside0.mk hr0_1
 have HC0_1:=Aside0.mk hc0_1
 clear hr0_1 hc0_1
 have HR1:=Aside0.mk hr1
 have HC1:=Aside0.mk hc1
 clear hr1 hc1
 have HB:=Aside0.mk (Below.refl w.heap.size w)
 have H:(impl_PrgProg_node.l0 k l1 l0_1 (l0_1.length:Int) 0)=some r:=h
 clear h
 have H':=Aside0.mk H
 clear H
 go_enter Tryd.func38,Tryd.ntmps38
 go_wp2_with (first|((with_reducible refine gate_dst (N:=2) rfl ?_);refine box_event ?hg (N:=2) ?hd (cs:=#[.slice A0_0 l0_0.length c0_0,.slice A0_1 l0_1.length c0_1]) (t:=33) ?hr ?_;(case hd=>rfl);(case hg=>rfl);(case hr=>first|(go_simp;done)|(go_simp;rfl));intro gb292 hg w3 hbox hb;have n0_:=Aside0.mk (below_step qz1 hb);have n1_:=Aside0.mk (hbox);have n2_:=Aside0.mk ((by rw [hg];exact (below_size qz1):w.heap.size≤gb292));have n3_:=Aside0.mk ((by rw [hg];exact (below_size qz1):w.heap.size≤gb292));clear HB;have HB:=n0_;have BK292:=n1_;have GW292:=n2_;have GE292:=n3_;clear n0_ n1_ n2_ n3_ hb hbox hg;have hcz4_0:w3.cell? ⟨gb292,0,none⟩=some (.slice A0_0 l0_0.length c0_0):=(blk_cell BK292.out 0).trans rfl;have hcz4_1:w3.cell? ⟨gb292,1,none⟩=some (.slice A0_1 l0_1.length c0_1):=(blk_cell BK292.out 1).trans rfl;have hfz4_0:=blk_frozen BK292.out 0;have hfz4_1:=blk_frozen BK292.out 1))
 repeat (go_quiet (first|((with_reducible refine gate_dst (N:=2) rfl ?_);refine box_event ?hg (N:=2) ?hd (cs:=#[.slice A0_0 l0_0.length c0_0,.slice A0_1 l0_1.length c0_1]) (t:=33) ?hr ?_;(case hd=>rfl);(case hg=>rfl);(case hr=>first|(go_simp;done)|(go_simp;rfl));intro gb292 hg w3 hbox hb;have n0_:=Aside0.mk (below_step qz1 hb);have n1_:=Aside0.mk (hbox);have n2_:=Aside0.mk ((by rw [hg];exact (below_size qz1):w.heap.size≤gb292));have n3_:=Aside0.mk ((by rw [hg];exact (below_size qz1):w.heap.size≤gb292));clear HB;have HB:=n0_;have BK292:=n1_;have GW292:=n2_;have GE292:=n3_;clear n0_ n1_ n2_ n3_ hb hbox hg;have hcz4_0:w3.cell? ⟨gb292,0,none⟩=some (.slice A0_0 l0_0.length c0_0):=(blk_cell BK292.out 0).trans rfl;have hcz4_1:w3.cell? ⟨gb292,1,none⟩=some (.slice A0_1 l0_1.length c0_1):=(blk_cell BK292.out 1).trans rfl;have hfz4_0:=blk_frozen BK292.out 0;have hfz4_1:=blk_frozen BK292.out 1));try go_wp2_with (first|((with_reducible refine gate_dst (N:=2) rfl ?_);refine box_event ?hg (N:=2) ?hd (cs:=#[.slice A0_0 l0_0.length c0_0,.slice A0_1 l0_1.length c0_1]) (t:=33) ?hr ?_;(case hd=>rfl);(case hg=>rfl);(case hr=>first|(go_simp;done)|(go_simp;rfl));intro gb292 hg w3 hbox hb;have n0_:=Aside0.mk (below_step qz1 hb);have n1_:=Aside0.mk (hbox);have n2_:=Aside0.mk ((by rw [hg];exact (below_size qz1):w.heap.size≤gb292));have n3_:=Aside0.mk ((by rw [hg];exact (below_size qz1):w.heap.size≤gb292));clear HB;have HB:=n0_;have BK292:=n1_;have GW292:=n2_;have GE292:=n3_;clear n0_ n1_ n2_ n3_ hb hbox hg;have hcz4_0:w3.cell? ⟨gb292,0,none⟩=some (.slice A0_0 l0_0.length c0_0):=(blk_cell BK292.out 0).trans rfl;have hcz4_1:w3.cell? ⟨gb292,1,none⟩=some (.slice A0_1 l0_1.length c0_1):=(blk_cell BK292.out 1).trans rfl;have hfz4_0:=blk_frozen BK292.out 0;have hfz4_1:=blk_frozen BK292.out 1)))
 go_loopg [10] k (fun kq v10 w'=>∃ (x10_1:Int),v10 = .int .i64 x10_1∧Aside0 (impl_PrgProg_node.l0 kq l1 l0_1 (l0_1.length:Int) x10_1=some r)∧Aside0 (kq≤k)∧Aside0 (w'.heap[gb292]?=some (.cells #[(.slice A0_0 l0_0.length c0_0),(.slice A0_1 l0_1.length c0_1)] 33 (0,0)))∧Aside0 (Below w.heap.size w w'))
 case atStart=>exact ⟨(0),qz12,H',⟨Nat.le_refl _⟩,⟨qz24⟩,⟨qz11⟩⟩
 case round=>
  clear H'
  try clear c1
  try clear p2
  try clear c3
  try clear hcz4_0
  try clear hcz4_1
  try clear hfz4_0
  try clear hfz4_1
  obtain ⟨x10_1,rfl,HA,HK1,BK292,HB⟩:=hrel
  cases gk with
  | zero=>exact absurd HA.out (by simp [impl_PrgProg_node.l0])
  | succ k1=>
   have H:=HA.out
   clear HA
   simp only [impl_PrgProg_node.l0] at H
   by_cases c5:x10_1<(l0_1.length:Int)
   ·rw [if_pos c5] at H
    have c5b0:decide (x10_1<(l0_1.length:Int))=true:=decide_eq_true c5
    clear c5
    by_cases c6:0≤x10_1
    ·rw [if_pos c6] at H
     have c6b0:decide (0≤x10_1)=true:=decide_eq_true c6
     clear c6
     by_cases c7:x10_1<(l0_1.length:Int)
     ·rw [if_pos c7] at H
      have c7b0:decide (x10_1<(l0_1.length:Int))=true:=decide_eq_true c7
      clear c7
      by_cases c8:0<(l1.length:Int)
      ·rw [if_pos c8] at H
       have c8b0:decide (0<(l1.length:Int))=true:=decide_eq_true c8
       have c8b1:decide (0<l1.length)=true:=decide_eq_true (by omega)
       clear c8
       by_cases c9:((rd_T88 l0_1 x10_1).f0).toList=((rd_T47 l1 0).f2).toList
       ·rw [if_pos c9] at H
        have c9b0:(((rd_T88 l0_1 x10_1).f0).toList == ((rd_T47 l1 0).f2).toList)=true:=beq_iff_eq.mpr c9
        have c9b1:(((rd_T88 l0_1 x10_1).f0).toList != ((rd_T47 l1 0).f2).toList)=false:=bne_eq_false_iff_eq.mpr c9
        clear c9
        by_cases c10:((rd_T88 l0_1 x10_1).f1)=((rd_T47 l1 0).f1)
        ·rw [if_pos c10] at H
         have c10b0:(((rd_T88 l0_1 x10_1).f1) == ((rd_T47 l1 0).f1))=true:=beq_iff_eq.mpr c10
         have c10b1:(((rd_T88 l0_1 x10_1).f1) != ((rd_T47 l1 0).f1))=false:=bne_eq_false_iff_eq.mpr c10
         clear c10
         obtain rfl:=Option.some.inj H
         have p293:0≤(x10_1:Int):=of_decide_eq_true qz7
         have q293:x10_1<(l0_1.length:Int):=of_decide_eq_true qz7
         obtain ⟨ad293,e293,hx293_0,hx293_1,hx293_2⟩:=at_T88 HR0_1.out x10_1 p293 q293
         cases e293
         replace hx293_0:=(HB.out.cell (World.block_lt_of_cell? w _ hx293_0)).trans hx293_0
         replace hx293_1:=(HB.out.cell (World.block_lt_of_cell? w _ hx293_1)).trans hx293_1
         replace hx293_2:=(HB.out.cell (World.block_lt_of_cell? w _ hx293_2)).trans hx293_2
         replace p293:=eq_true p293
         replace q293:=eq_true q293
         go_wp2_with (first|((with_reducible refine gate_dst (N:=6) rfl ?_);refine box_event ?hg (N:=6) ?hd (cs:=#[.string (⟨#[]⟩:ByteArray),.int .i64 0,.int .i64 0]) (t:=88) ?hr ?_;(case hd=>rfl);(case hg=>rfl);(case hr=>first|(go_simp;done)|(go_simp;rfl));intro gb294 hg w11 hbox hb;have n0_:=Aside0.mk (blk_below (g:=gb292) (o:=.cells #[.slice A0_0 l0_0.length c0_0,.slice (some ad293) l0_1.length c0_1] 33 (0,0)) qz24 hb);have n1_:=Aside0.mk (below_step qz11 hb);have n2_:=Aside0.mk (hbox);have n3_:=Aside0.mk ((by rw [hg];exact (below_size qz11):w.heap.size≤gb294));have n4_:=Aside0.mk ((by rw [hg];exact (below_size qz11):w.heap.size≤gb294));have n5_:=Aside0.mk ((by rw [hg];exact Nat.ne_of_lt (blk_lt (g:=gb292) (o:=.cells #[.slice A0_0 l0_0.length c0_0,.slice (some ad293) l0_1.length c0_1] 33 (0,0)) qz24):gb292≠gb294));have n6_:=Aside0.mk ((by rw [hg];exact Nat.ne_of_gt (blk_lt (g:=gb292) (o:=.cells #[.slice A0_0 l0_0.length c0_0,.slice (some ad293) l0_1.length c0_1] 33 (0,0)) qz24):gb294≠gb292));clear BK292 HB;have BK292:=n0_;have HB:=n1_;have BK294:=n2_;have GW294:=n3_;have GE294:=n4_;have NB292_294:=n5_;have NB294_292:=n6_;clear n0_ n1_ n2_ n3_ n4_ n5_ n6_ hb hbox hg;have hnb12:=NB294_292.out;have hnc12:=NB292_294.out;have hcz13_0:w11.cell? ⟨gb294,0,none⟩=some (.string (⟨#[]⟩:ByteArray)):=(blk_cell BK294.out 0).trans rfl;have hcz13_1:w11.cell? ⟨gb294,1,none⟩=some (.int .i64 0):=(blk_cell BK294.out 1).trans rfl;have hcz13_2:w11.cell? ⟨gb294,2,none⟩=some (.int .i64 0):=(blk_cell BK294.out 2).trans rfl;have hfz13_0:=blk_frozen BK294.out 0;have hfz13_1:=blk_frozen BK294.out 1;have hfz13_2:=blk_frozen BK294.out 2;have p295:0≤(0:Int):=(by omega);have q295:0<(l1.length:Int):=of_decide_eq_true qz7;obtain ⟨ad295,e295,hx295_0,hx295_1,hx295_2⟩:=at_T47 HR1.out 0 p295 q295;cases e295;have qi295:(0<l1.length)=True:=eq_true (by omega);(try rw [show ((0:Int)).toNat=0 from rfl] at hx295_0);(try rw [show 0 * 3=0 from rfl] at hx295_0);(try rw [Addr.add_zero'] at hx295_0);(try rw [show ((0:Int)).toNat=0 from rfl] at hx295_1);(try rw [show 0 * 3=0 from rfl] at hx295_1);(try rw [Addr.add_zero'] at hx295_1);(try rw [show ((0:Int)).toNat=0 from rfl] at hx295_2);(try rw [show 0 * 3=0 from rfl] at hx295_2);(try rw [Addr.add_zero'] at hx295_2);have hn295_0:ad295.block≠gb294:=Nat.ne_of_lt (Nat.lt_of_lt_of_le (by have:=World.block_lt_of_cell? _ _ hx295_0;first|rwa [add_block] at this|exact this) GW294.out);have hn295_1:ad295.block≠gb294:=Nat.ne_of_lt (Nat.lt_of_lt_of_le (by have:=World.block_lt_of_cell? _ _ hx295_0;first|rwa [add_block] at this|exact this) GW294.out);have hn295_2:ad295.block≠gb294:=Nat.ne_of_lt (Nat.lt_of_lt_of_le (by have:=World.block_lt_of_cell? _ _ hx295_0;first|rwa [add_block] at this|exact this) GW294.out);replace hx295_0:=(HB.out.cell (World.block_lt_of_cell? w _ hx295_0)).trans hx295_0;replace hx295_1:=(HB.out.cell (World.block_lt_of_cell? w _ hx295_1)).trans hx295_1;replace hx295_2:=(HB.out.cell (World.block_lt_of_cell? w _ hx295_2)).trans hx295_2;replace hx295_0:=(cell_far (p:=⟨gb294,0,none⟩) qz22 (.string ((rd_T88 l0_1 x10_1).f0))).trans hx295_0;replace hx295_1:=(cell_far (p:=⟨gb294,0,none⟩) qz22 (.string ((rd_T88 l0_1 x10_1).f0))).trans hx295_1;replace hx295_2:=(cell_far (p:=⟨gb294,0,none⟩) qz22 (.string ((rd_T88 l0_1 x10_1).f0))).trans hx295_2;replace hx295_0:=(cell_far (p:=⟨gb294,1,none⟩) qz21 (.int .i64 ((rd_T88 l0_1 x10_1).f1))).trans hx295_0;replace hx295_1:=(cell_far (p:=⟨gb294,1,none⟩) qz21 (.int .i64 ((rd_T88 l0_1 x10_1).f1))).trans hx295_1;replace hx295_2:=(cell_far (p:=⟨gb294,1,none⟩) qz21 (.int .i64 ((rd_T88 l0_1 x10_1).f1))).trans hx295_2;replace hx295_0:=(cell_far (p:=⟨gb294,2,none⟩) qz20 (.int .i64 ((rd_T88 l0_1 x10_1).f2))).trans hx295_0;replace hx295_1:=(cell_far (p:=⟨gb294,2,none⟩) qz20 (.int .i64 ((rd_T88 l0_1 x10_1).f2))).trans hx295_1;replace hx295_2:=(cell_far (p:=⟨gb294,2,none⟩) qz20 (.int .i64 ((rd_T88 l0_1 x10_1).f2))).trans hx295_2;(try have hy295_0:=fun (n_:Nat)=>(show (((((w11.drewN n_).setCell ⟨gb294,0,none⟩ (.string ((rd_T88 l0_1 x10_1).f0))).setCell ⟨gb294,1,none⟩ (.int .i64 ((rd_T88 l0_1 x10_1).f1))).setCell ⟨gb294,2,none⟩ (.int .i64 ((rd_T88 l0_1 x10_1).f2)))).cell? _=some _ from hx295_0));(try have hy295_1:=fun (n_:Nat)=>(show (((((w11.drewN n_).setCell ⟨gb294,0,none⟩ (.string ((rd_T88 l0_1 x10_1).f0))).setCell ⟨gb294,1,none⟩ (.int .i64 ((rd_T88 l0_1 x10_1).f1))).setCell ⟨gb294,2,none⟩ (.int .i64 ((rd_T88 l0_1 x10_1).f2)))).cell? _=some _ from hx295_1));(try have hy295_2:=fun (n_:Nat)=>(show (((((w11.drewN n_).setCell ⟨gb294,0,none⟩ (.string ((rd_T88 l0_1 x10_1).f0))).setCell ⟨gb294,1,none⟩ (.int .i64 ((rd_T88 l0_1 x10_1).f1))).setCell ⟨gb294,2,none⟩ (.int .i64 ((rd_T88 l0_1 x10_1).f2)))).cell? _=some _ from hx295_2));clear hn295_0 hn295_1 hn295_2;replace p295:=eq_true p295;replace q295:=eq_true q295;have p296:0≤(0:Int):=(by omega);have q296:0<(l1.length:Int):=of_decide_eq_true qz7;obtain ⟨ad296,e296,hx296_0,hx296_1,hx296_2⟩:=at_T47 HR1.out 0 p296 q296;obtain rfl:ad295=ad296:=(by injection e296);have qi296:(0<l1.length)=True:=eq_true (by omega);(try rw [show ((0:Int)).toNat=0 from rfl] at hx296_0);(try rw [show 0 * 3=0 from rfl] at hx296_0);(try rw [Addr.add_zero'] at hx296_0);(try rw [show ((0:Int)).toNat=0 from rfl] at hx296_1);(try rw [show 0 * 3=0 from rfl] at hx296_1);(try rw [Addr.add_zero'] at hx296_1);(try rw [show ((0:Int)).toNat=0 from rfl] at hx296_2);(try rw [show 0 * 3=0 from rfl] at hx296_2);(try rw [Addr.add_zero'] at hx296_2);have hn296_0:ad295.block≠gb294:=Nat.ne_of_lt (Nat.lt_of_lt_of_le (by have:=World.block_lt_of_cell? _ _ hx296_0;first|rwa [add_block] at this|exact this) GW294.out);have hn296_1:ad295.block≠gb294:=Nat.ne_of_lt (Nat.lt_of_lt_of_le (by have:=World.block_lt_of_cell? _ _ hx296_0;first|rwa [add_block] at this|exact this) GW294.out);have hn296_2:ad295.block≠gb294:=Nat.ne_of_lt (Nat.lt_of_lt_of_le (by have:=World.block_lt_of_cell? _ _ hx296_0;first|rwa [add_block] at this|exact this) GW294.out);replace hx296_0:=(HB.out.cell (World.block_lt_of_cell? w _ hx296_0)).trans hx296_0;replace hx296_1:=(HB.out.cell (World.block_lt_of_cell? w _ hx296_1)).trans hx296_1;replace hx296_2:=(HB.out.cell (World.block_lt_of_cell? w _ hx296_2)).trans hx296_2;replace hx296_0:=(cell_far (p:=⟨gb294,0,none⟩) qz35 (.string ((rd_T88 l0_1 x10_1).f0))).trans hx296_0;replace hx296_1:=(cell_far (p:=⟨gb294,0,none⟩) qz35 (.string ((rd_T88 l0_1 x10_1).f0))).trans hx296_1;replace hx296_2:=(cell_far (p:=⟨gb294,0,none⟩) qz35 (.string ((rd_T88 l0_1 x10_1).f0))).trans hx296_2;replace hx296_0:=(cell_far (p:=⟨gb294,1,none⟩) qz34 (.int .i64 ((rd_T88 l0_1 x10_1).f1))).trans hx296_0;replace hx296_1:=(cell_far (p:=⟨gb294,1,none⟩) qz34 (.int .i64 ((rd_T88 l0_1 x10_1).f1))).trans hx296_1;replace hx296_2:=(cell_far (p:=⟨gb294,1,none⟩) qz34 (.int .i64 ((rd_T88 l0_1 x10_1).f1))).trans hx296_2;replace hx296_0:=(cell_far (p:=⟨gb294,2,none⟩) qz33 (.int .i64 ((rd_T88 l0_1 x10_1).f2))).trans hx296_0;replace hx296_1:=(cell_far (p:=⟨gb294,2,none⟩) qz33 (.int .i64 ((rd_T88 l0_1 x10_1).f2))).trans hx296_1;replace hx296_2:=(cell_far (p:=⟨gb294,2,none⟩) qz33 (.int .i64 ((rd_T88 l0_1 x10_1).f2))).trans hx296_2;(try have hy296_0:=fun (n_:Nat)=>(show (((((w11.drewN n_).setCell ⟨gb294,0,none⟩ (.string ((rd_T88 l0_1 x10_1).f0))).setCell ⟨gb294,1,none⟩ (.int .i64 ((rd_T88 l0_1 x10_1).f1))).setCell ⟨gb294,2,none⟩ (.int .i64 ((rd_T88 l0_1 x10_1).f2)))).cell? _=some _ from hx296_0));(try have hy296_1:=fun (n_:Nat)=>(show (((((w11.drewN n_).setCell ⟨gb294,0,none⟩ (.string ((rd_T88 l0_1 x10_1).f0))).setCell ⟨gb294,1,none⟩ (.int .i64 ((rd_T88 l0_1 x10_1).f1))).setCell ⟨gb294,2,none⟩ (.int .i64 ((rd_T88 l0_1 x10_1).f2)))).cell? _=some _ from hx296_1));(try have hy296_2:=fun (n_:Nat)=>(show (((((w11.drewN n_).setCell ⟨gb294,0,none⟩ (.string ((rd_T88 l0_1 x10_1).f0))).setCell ⟨gb294,1,none⟩ (.int .i64 ((rd_T88 l0_1 x10_1).f1))).setCell ⟨gb294,2,none⟩ (.int .i64 ((rd_T88 l0_1 x10_1).f2)))).cell? _=some _ from hx296_2));clear hn296_0 hn296_1 hn296_2;replace p296:=eq_true p296;replace q296:=eq_true q296))
         repeat (go_quiet (first|((with_reducible refine gate_dst (N:=6) rfl ?_);refine box_event ?hg (N:=6) ?hd (cs:=#[.string (⟨#[]⟩:ByteArray),.int .i64 0,.int .i64 0]) (t:=88) ?hr ?_;(case hd=>rfl);(case hg=>rfl);(case hr=>first|(go_simp;done)|(go_simp;rfl));intro gb294 hg w11 hbox hb;have n0_:=Aside0.mk (blk_below (g:=gb292) (o:=.cells #[.slice A0_0 l0_0.length c0_0,.slice (some ad293) l0_1.length c0_1] 33 (0,0)) qz24 hb);have n1_:=Aside0.mk (below_step qz11 hb);have n2_:=Aside0.mk (hbox);have n3_:=Aside0.mk ((by rw [hg];exact (below_size qz11):w.heap.size≤gb294));have n4_:=Aside0.mk ((by rw [hg];exact (below_size qz11):w.heap.size≤gb294));have n5_:=Aside0.mk ((by rw [hg];exact Nat.ne_of_lt (blk_lt (g:=gb292) (o:=.cells #[.slice A0_0 l0_0.length c0_0,.slice (some ad293) l0_1.length c0_1] 33 (0,0)) qz24):gb292≠gb294));have n6_:=Aside0.mk ((by rw [hg];exact Nat.ne_of_gt (blk_lt (g:=gb292) (o:=.cells #[.slice A0_0 l0_0.length c0_0,.slice (some ad293) l0_1.length c0_1] 33 (0,0)) qz24):gb294≠gb292));clear BK292 HB;have BK292:=n0_;have HB:=n1_;have BK294:=n2_;have GW294:=n3_;have GE294:=n4_;have NB292_294:=n5_;have NB294_292:=n6_;clear n0_ n1_ n2_ n3_ n4_ n5_ n6_ hb hbox hg;have hnb12:=NB294_292.out;have hnc12:=NB292_294.out;have hcz13_0:w11.cell? ⟨gb294,0,none⟩=some (.string (⟨#[]⟩:ByteArray)):=(blk_cell BK294.out 0).trans rfl;have hcz13_1:w11.cell? ⟨gb294,1,none⟩=some (.int .i64 0):=(blk_cell BK294.out 1).trans rfl;have hcz13_2:w11.cell? ⟨gb294,2,none⟩=some (.int .i64 0):=(blk_cell BK294.out 2).trans rfl;have hfz13_0:=blk_frozen BK294.out 0;have hfz13_1:=blk_frozen BK294.out 1;have hfz13_2:=blk_frozen BK294.out 2;have p295:0≤(0:Int):=(by omega);have q295:0<(l1.length:Int):=of_decide_eq_true qz7;obtain ⟨ad295,e295,hx295_0,hx295_1,hx295_2⟩:=at_T47 HR1.out 0 p295 q295;cases e295;have qi295:(0<l1.length)=True:=eq_true (by omega);(try rw [show ((0:Int)).toNat=0 from rfl] at hx295_0);(try rw [show 0 * 3=0 from rfl] at hx295_0);(try rw [Addr.add_zero'] at hx295_0);(try rw [show ((0:Int)).toNat=0 from rfl] at hx295_1);(try rw [show 0 * 3=0 from rfl] at hx295_1);(try rw [Addr.add_zero'] at hx295_1);(try rw [show ((0:Int)).toNat=0 from rfl] at hx295_2);(try rw [show 0 * 3=0 from rfl] at hx295_2);(try rw [Addr.add_zero'] at hx295_2);have hn295_0:ad295.block≠gb294:=Nat.ne_of_lt (Nat.lt_of_lt_of_le (by have:=World.block_lt_of_cell? _ _ hx295_0;first|rwa [add_block] at this|exact this) GW294.out);have hn295_1:ad295.block≠gb294:=Nat.ne_of_lt (Nat.lt_of_lt_of_le (by have:=World.block_lt_of_cell? _ _ hx295_0;first|rwa [add_block] at this|exact this) GW294.out);have hn295_2:ad295.block≠gb294:=Nat.ne_of_lt (Nat.lt_of_lt_of_le (by have:=World.block_lt_of_cell? _ _ hx295_0;first|rwa [add_block] at this|exact this) GW294.out);replace hx295_0:=(HB.out.cell (World.block_lt_of_cell? w _ hx295_0)).trans hx295_0;replace hx295_1:=(HB.out.cell (World.block_lt_of_cell? w _ hx295_1)).trans hx295_1;replace hx295_2:=(HB.out.cell (World.block_lt_of_cell? w _ hx295_2)).trans hx295_2;replace hx295_0:=(cell_far (p:=⟨gb294,0,none⟩) qz22 (.string ((rd_T88 l0_1 x10_1).f0))).trans hx295_0;replace hx295_1:=(cell_far (p:=⟨gb294,0,none⟩) qz22 (.string ((rd_T88 l0_1 x10_1).f0))).trans hx295_1;replace hx295_2:=(cell_far (p:=⟨gb294,0,none⟩) qz22 (.string ((rd_T88 l0_1 x10_1).f0))).trans hx295_2;replace hx295_0:=(cell_far (p:=⟨gb294,1,none⟩) qz21 (.int .i64 ((rd_T88 l0_1 x10_1).f1))).trans hx295_0;replace hx295_1:=(cell_far (p:=⟨gb294,1,none⟩) qz21 (.int .i64 ((rd_T88 l0_1 x10_1).f1))).trans hx295_1;replace hx295_2:=(cell_far (p:=⟨gb294,1,none⟩) qz21 (.int .i64 ((rd_T88 l0_1 x10_1).f1))).trans hx295_2;replace hx295_0:=(cell_far (p:=⟨gb294,2,none⟩) qz20 (.int .i64 ((rd_T88 l0_1 x10_1).f2))).trans hx295_0;replace hx295_1:=(cell_far (p:=⟨gb294,2,none⟩) qz20 (.int .i64 ((rd_T88 l0_1 x10_1).f2))).trans hx295_1;replace hx295_2:=(cell_far (p:=⟨gb294,2,none⟩) qz20 (.int .i64 ((rd_T88 l0_1 x10_1).f2))).trans hx295_2;(try have hy295_0:=fun (n_:Nat)=>(show (((((w11.drewN n_).setCell ⟨gb294,0,none⟩ (.string ((rd_T88 l0_1 x10_1).f0))).setCell ⟨gb294,1,none⟩ (.int .i64 ((rd_T88 l0_1 x10_1).f1))).setCell ⟨gb294,2,none⟩ (.int .i64 ((rd_T88 l0_1 x10_1).f2)))).cell? _=some _ from hx295_0));(try have hy295_1:=fun (n_:Nat)=>(show (((((w11.drewN n_).setCell ⟨gb294,0,none⟩ (.string ((rd_T88 l0_1 x10_1).f0))).setCell ⟨gb294,1,none⟩ (.int .i64 ((rd_T88 l0_1 x10_1).f1))).setCell ⟨gb294,2,none⟩ (.int .i64 ((rd_T88 l0_1 x10_1).f2)))).cell? _=some _ from hx295_1));(try have hy295_2:=fun (n_:Nat)=>(show (((((w11.drewN n_).setCell ⟨gb294,0,none⟩ (.string ((rd_T88 l0_1 x10_1).f0))).setCell ⟨gb294,1,none⟩ (.int .i64 ((rd_T88 l0_1 x10_1).f1))).setCell ⟨gb294,2,none⟩ (.int .i64 ((rd_T88 l0_1 x10_1).f2)))).cell? _=some _ from hx295_2));clear hn295_0 hn295_1 hn295_2;replace p295:=eq_true p295;replace q295:=eq_true q295;have p296:0≤(0:Int):=(by omega);have q296:0<(l1.length:Int):=of_decide_eq_true qz7;obtain ⟨ad296,e296,hx296_0,hx296_1,hx296_2⟩:=at_T47 HR1.out 0 p296 q296;obtain rfl:ad295=ad296:=(by injection e296);have qi296:(0<l1.length)=True:=eq_true (by omega);(try rw [show ((0:Int)).toNat=0 from rfl] at hx296_0);(try rw [show 0 * 3=0 from rfl] at hx296_0);(try rw [Addr.add_zero'] at hx296_0);(try rw [show ((0:Int)).toNat=0 from rfl] at hx296_1);(try rw [show 0 * 3=0 from rfl] at hx296_1);(try rw [Addr.add_zero'] at hx296_1);(try rw [show ((0:Int)).toNat=0 from rfl] at hx296_2);(try rw [show 0 * 3=0 from rfl] at hx296_2);(try rw [Addr.add_zero'] at hx296_2);have hn296_0:ad295.block≠gb294:=Nat.ne_of_lt (Nat.lt_of_lt_of_le (by have:=World.block_lt_of_cell? _ _ hx296_0;first|rwa [add_block] at this|exact this) GW294.out);have hn296_1:ad295.block≠gb294:=Nat.ne_of_lt (Nat.lt_of_lt_of_le (by have:=World.block_lt_of_cell? _ _ hx296_0;first|rwa [add_block] at this|exact this) GW294.out);have hn296_2:ad295.block≠gb294:=Nat.ne_of_lt (Nat.lt_of_lt_of_le (by have:=World.block_lt_of_cell? _ _ hx296_0;first|rwa [add_block] at this|exact this) GW294.out);replace hx296_0:=(HB.out.cell (World.block_lt_of_cell? w _ hx296_0)).trans hx296_0;replace hx296_1:=(HB.out.cell (World.block_lt_of_cell? w _ hx296_1)).trans hx296_1;replace hx296_2:=(HB.out.cell (World.block_lt_of_cell? w _ hx296_2)).trans hx296_2;replace hx296_0:=(cell_far (p:=⟨gb294,0,none⟩) qz35 (.string ((rd_T88 l0_1 x10_1).f0))).trans hx296_0;replace hx296_1:=(cell_far (p:=⟨gb294,0,none⟩) qz35 (.string ((rd_T88 l0_1 x10_1).f0))).trans hx296_1;replace hx296_2:=(cell_far (p:=⟨gb294,0,none⟩) qz35 (.string ((rd_T88 l0_1 x10_1).f0))).trans hx296_2;replace hx296_0:=(cell_far (p:=⟨gb294,1,none⟩) qz34 (.int .i64 ((rd_T88 l0_1 x10_1).f1))).trans hx296_0;replace hx296_1:=(cell_far (p:=⟨gb294,1,none⟩) qz34 (.int .i64 ((rd_T88 l0_1 x10_1).f1))).trans hx296_1;replace hx296_2:=(cell_far (p:=⟨gb294,1,none⟩) qz34 (.int .i64 ((rd_T88 l0_1 x10_1).f1))).trans hx296_2;replace hx296_0:=(cell_far (p:=⟨gb294,2,none⟩) qz33 (.int .i64 ((rd_T88 l0_1 x10_1).f2))).trans hx296_0;replace hx296_1:=(cell_far (p:=⟨gb294,2,none⟩) qz33 (.int .i64 ((rd_T88 l0_1 x10_1).f2))).trans hx296_1;replace hx296_2:=(cell_far (p:=⟨gb294,2,none⟩) qz33 (.int .i64 ((rd_T88 l0_1 x10_1).f2))).trans hx296_2;(try have hy296_0:=fun (n_:Nat)=>(show (((((w11.drewN n_).setCell ⟨gb294,0,none⟩ (.string ((rd_T88 l0_1 x10_1).f0))).setCell ⟨gb294,1,none⟩ (.int .i64 ((rd_T88 l0_1 x10_1).f1))).setCell ⟨gb294,2,none⟩ (.int .i64 ((rd_T88 l0_1 x10_1).f2)))).cell? _=some _ from hx296_0));(try have hy296_1:=fun (n_:Nat)=>(show (((((w11.drewN n_).setCell ⟨gb294,0,none⟩ (.string ((rd_T88 l0_1 x10_1).f0))).setCell ⟨gb294,1,none⟩ (.int .i64 ((rd_T88 l0_1 x10_1).f1))).setCell ⟨gb294,2,none⟩ (.int .i64 ((rd_T88 l0_1 x10_1).f2)))).cell? _=some _ from hx296_1));(try have hy296_2:=fun (n_:Nat)=>(show (((((w11.drewN n_).setCell ⟨gb294,0,none⟩ (.string ((rd_T88 l0_1 x10_1).f0))).setCell ⟨gb294,1,none⟩ (.int .i64 ((rd_T88 l0_1 x10_1).f1))).setCell ⟨gb294,2,none⟩ (.int .i64 ((rd_T88 l0_1 x10_1).f2)))).cell? _=some _ from hx296_2));clear hn296_0 hn296_1 hn296_2;replace p296:=eq_true p296;replace q296:=eq_true q296));try go_wp2_with (first|((with_reducible refine gate_dst (N:=6) rfl ?_);refine box_event ?hg (N:=6) ?hd (cs:=#[.string (⟨#[]⟩:ByteArray),.int .i64 0,.int .i64 0]) (t:=88) ?hr ?_;(case hd=>rfl);(case hg=>rfl);(case hr=>first|(go_simp;done)|(go_simp;rfl));intro gb294 hg w11 hbox hb;have n0_:=Aside0.mk (blk_below (g:=gb292) (o:=.cells #[.slice A0_0 l0_0.length c0_0,.slice (some ad293) l0_1.length c0_1] 33 (0,0)) qz24 hb);have n1_:=Aside0.mk (below_step qz11 hb);have n2_:=Aside0.mk (hbox);have n3_:=Aside0.mk ((by rw [hg];exact (below_size qz11):w.heap.size≤gb294));have n4_:=Aside0.mk ((by rw [hg];exact (below_size qz11):w.heap.size≤gb294));have n5_:=Aside0.mk ((by rw [hg];exact Nat.ne_of_lt (blk_lt (g:=gb292) (o:=.cells #[.slice A0_0 l0_0.length c0_0,.slice (some ad293) l0_1.length c0_1] 33 (0,0)) qz24):gb292≠gb294));have n6_:=Aside0.mk ((by rw [hg];exact Nat.ne_of_gt (blk_lt (g:=gb292) (o:=.cells #[.slice A0_0 l0_0.length c0_0,.slice (some ad293) l0_1.length c0_1] 33 (0,0)) qz24):gb294≠gb292));clear BK292 HB;have BK292:=n0_;have HB:=n1_;have BK294:=n2_;have GW294:=n3_;have GE294:=n4_;have NB292_294:=n5_;have NB294_292:=n6_;clear n0_ n1_ n2_ n3_ n4_ n5_ n6_ hb hbox hg;have hnb12:=NB294_292.out;have hnc12:=NB292_294.out;have hcz13_0:w11.cell? ⟨gb294,0,none⟩=some (.string (⟨#[]⟩:ByteArray)):=(blk_cell BK294.out 0).trans rfl;have hcz13_1:w11.cell? ⟨gb294,1,none⟩=some (.int .i64 0):=(blk_cell BK294.out 1).trans rfl;have hcz13_2:w11.cell? ⟨gb294,2,none⟩=some (.int .i64 0):=(blk_cell BK294.out 2).trans rfl;have hfz13_0:=blk_frozen BK294.out 0;have hfz13_1:=blk_frozen BK294.out 1;have hfz13_2:=blk_frozen BK294.out 2;have p295:0≤(0:Int):=(by omega);have q295:0<(l1.length:Int):=of_decide_eq_true qz7;obtain ⟨ad295,e295,hx295_0,hx295_1,hx295_2⟩:=at_T47 HR1.out 0 p295 q295;cases e295;have qi295:(0<l1.length)=True:=eq_true (by omega);(try rw [show ((0:Int)).toNat=0 from rfl] at hx295_0);(try rw [show 0 * 3=0 from rfl] at hx295_0);(try rw [Addr.add_zero'] at hx295_0);(try rw [show ((0:Int)).toNat=0 from rfl] at hx295_1);(try rw [show 0 * 3=0 from rfl] at hx295_1);(try rw [Addr.add_zero'] at hx295_1);(try rw [show ((0:Int)).toNat=0 from rfl] at hx295_2);(try rw [show 0 * 3=0 from rfl] at hx295_2);(try rw [Addr.add_zero'] at hx295_2);have hn295_0:ad295.block≠gb294:=Nat.ne_of_lt (Nat.lt_of_lt_of_le (by have:=World.block_lt_of_cell? _ _ hx295_0;first|rwa [add_block] at this|exact this) GW294.out);have hn295_1:ad295.block≠gb294:=Nat.ne_of_lt (Nat.lt_of_lt_of_le (by have:=World.block_lt_of_cell? _ _ hx295_0;first|rwa [add_block] at this|exact this) GW294.out);have hn295_2:ad295.block≠gb294:=Nat.ne_of_lt (Nat.lt_of_lt_of_le (by have:=World.block_lt_of_cell? _ _ hx295_0;first|rwa [add_block] at this|exact this) GW294.out);replace hx295_0:=(HB.out.cell (World.block_lt_of_cell? w _ hx295_0)).trans hx295_0;replace hx295_1:=(HB.out.cell (World.block_lt_of_cell? w _ hx295_1)).trans hx295_1;replace hx295_2:=(HB.out.cell (World.block_lt_of_cell? w _ hx295_2)).trans hx295_2;replace hx295_0:=(cell_far (p:=⟨gb294,0,none⟩) qz22 (.string ((rd_T88 l0_1 x10_1).f0))).trans hx295_0;replace hx295_1:=(cell_far (p:=⟨gb294,0,none⟩) qz22 (.string ((rd_T88 l0_1 x10_1).f0))).trans hx295_1;replace hx295_2:=(cell_far (p:=⟨gb294,0,none⟩) qz22 (.string ((rd_T88 l0_1 x10_1).f0))).trans hx295_2;replace hx295_0:=(cell_far (p:=⟨gb294,1,none⟩) qz21 (.int .i64 ((rd_T88 l0_1 x10_1).f1))).trans hx295_0;replace hx295_1:=(cell_far (p:=⟨gb294,1,none⟩) qz21 (.int .i64 ((rd_T88 l0_1 x10_1).f1))).trans hx295_1;replace hx295_2:=(cell_far (p:=⟨gb294,1,none⟩) qz21 (.int .i64 ((rd_T88 l0_1 x10_1).f1))).trans hx295_2;replace hx295_0:=(cell_far (p:=⟨gb294,2,none⟩) qz20 (.int .i64 ((rd_T88 l0_1 x10_1).f2))).trans hx295_0;replace hx295_1:=(cell_far (p:=⟨gb294,2,none⟩) qz20 (.int .i64 ((rd_T88 l0_1 x10_1).f2))).trans hx295_1;replace hx295_2:=(cell_far (p:=⟨gb294,2,none⟩) qz20 (.int .i64 ((rd_T88 l0_1 x10_1).f2))).trans hx295_2;(try have hy295_0:=fun (n_:Nat)=>(show (((((w11.drewN n_).setCell ⟨gb294,0,none⟩ (.string ((rd_T88 l0_1 x10_1).f0))).setCell ⟨gb294,1,none⟩ (.int .i64 ((rd_T88 l0_1 x10_1).f1))).setCell ⟨gb294,2,none⟩ (.int .i64 ((rd_T88 l0_1 x10_1).f2)))).cell? _=some _ from hx295_0));(try have hy295_1:=fun (n_:Nat)=>(show (((((w11.drewN n_).setCell ⟨gb294,0,none⟩ (.string ((rd_T88 l0_1 x10_1).f0))).setCell ⟨gb294,1,none⟩ (.int .i64 ((rd_T88 l0_1 x10_1).f1))).setCell ⟨gb294,2,none⟩ (.int .i64 ((rd_T88 l0_1 x10_1).f2)))).cell? _=some _ from hx295_1));(try have hy295_2:=fun (n_:Nat)=>(show (((((w11.drewN n_).setCell ⟨gb294,0,none⟩ (.string ((rd_T88 l0_1 x10_1).f0))).setCell ⟨gb294,1,none⟩ (.int .i64 ((rd_T88 l0_1 x10_1).f1))).setCell ⟨gb294,2,none⟩ (.int .i64 ((rd_T88 l0_1 x10_1).f2)))).cell? _=some _ from hx295_2));clear hn295_0 hn295_1 hn295_2;replace p295:=eq_true p295;replace q295:=eq_true q295;have p296:0≤(0:Int):=(by omega);have q296:0<(l1.length:Int):=of_decide_eq_true qz7;obtain ⟨ad296,e296,hx296_0,hx296_1,hx296_2⟩:=at_T47 HR1.out 0 p296 q296;obtain rfl:ad295=ad296:=(by injection e296);have qi296:(0<l1.length)=True:=eq_true (by omega);(try rw [show ((0:Int)).toNat=0 from rfl] at hx296_0);(try rw [show 0 * 3=0 from rfl] at hx296_0);(try rw [Addr.add_zero'] at hx296_0);(try rw [show ((0:Int)).toNat=0 from rfl] at hx296_1);(try rw [show 0 * 3=0 from rfl] at hx296_1);(try rw [Addr.add_zero'] at hx296_1);(try rw [show ((0:Int)).toNat=0 from rfl] at hx296_2);(try rw [show 0 * 3=0 from rfl] at hx296_2);(try rw [Addr.add_zero'] at hx296_2);have hn296_0:ad295.block≠gb294:=Nat.ne_of_lt (Nat.lt_of_lt_of_le (by have:=World.block_lt_of_cell? _ _ hx296_0;first|rwa [add_block] at this|exact this) GW294.out);have hn296_1:ad295.block≠gb294:=Nat.ne_of_lt (Nat.lt_of_lt_of_le (by have:=World.block_lt_of_cell? _ _ hx296_0;first|rwa [add_block] at this|exact this) GW294.out);have hn296_2:ad295.block≠gb294:=Nat.ne_of_lt (Nat.lt_of_lt_of_le (by have:=World.block_lt_of_cell? _ _ hx296_0;first|rwa [add_block] at this|exact this) GW294.out);replace hx296_0:=(HB.out.cell (World.block_lt_of_cell? w _ hx296_0)).trans hx296_0;replace hx296_1:=(HB.out.cell (World.block_lt_of_cell? w _ hx296_1)).trans hx296_1;replace hx296_2:=(HB.out.cell (World.block_lt_of_cell? w _ hx296_2)).trans hx296_2;replace hx296_0:=(cell_far (p:=⟨gb294,0,none⟩) qz35 (.string ((rd_T88 l0_1 x10_1).f0))).trans hx296_0;replace hx296_1:=(cell_far (p:=⟨gb294,0,none⟩) qz35 (.string ((rd_T88 l0_1 x10_1).f0))).trans hx296_1;replace hx296_2:=(cell_far (p:=⟨gb294,0,none⟩) qz35 (.string ((rd_T88 l0_1 x10_1).f0))).trans hx296_2;replace hx296_0:=(cell_far (p:=⟨gb294,1,none⟩) qz34 (.int .i64 ((rd_T88 l0_1 x10_1).f1))).trans hx296_0;replace hx296_1:=(cell_far (p:=⟨gb294,1,none⟩) qz34 (.int .i64 ((rd_T88 l0_1 x10_1).f1))).trans hx296_1;replace hx296_2:=(cell_far (p:=⟨gb294,1,none⟩) qz34 (.int .i64 ((rd_T88 l0_1 x10_1).f1))).trans hx296_2;replace hx296_0:=(cell_far (p:=⟨gb294,2,none⟩) qz33 (.int .i64 ((rd_T88 l0_1 x10_1).f2))).trans hx296_0;replace hx296_1:=(cell_far (p:=⟨gb294,2,none⟩) qz33 (.int .i64 ((rd_T88 l0_1 x10_1).f2))).trans hx296_1;replace hx296_2:=(cell_far (p:=⟨gb294,2,none⟩) qz33 (.int .i64 ((rd_T88 l0_1 x10_1).f2))).trans hx296_2;(try have hy296_0:=fun (n_:Nat)=>(show (((((w11.drewN n_).setCell ⟨gb294,0,none⟩ (.string ((rd_T88 l0_1 x10_1).f0))).setCell ⟨gb294,1,none⟩ (.int .i64 ((rd_T88 l0_1 x10_1).f1))).setCell ⟨gb294,2,none⟩ (.int .i64 ((rd_T88 l0_1 x10_1).f2)))).cell? _=some _ from hx296_0));(try have hy296_1:=fun (n_:Nat)=>(show (((((w11.drewN n_).setCell ⟨gb294,0,none⟩ (.string ((rd_T88 l0_1 x10_1).f0))).setCell ⟨gb294,1,none⟩ (.int .i64 ((rd_T88 l0_1 x10_1).f1))).setCell ⟨gb294,2,none⟩ (.int .i64 ((rd_T88 l0_1 x10_1).f2)))).cell? _=some _ from hx296_1));(try have hy296_2:=fun (n_:Nat)=>(show (((((w11.drewN n_).setCell ⟨gb294,0,none⟩ (.string ((rd_T88 l0_1 x10_1).f0))).setCell ⟨gb294,1,none⟩ (.int .i64 ((rd_T88 l0_1 x10_1).f1))).setCell ⟨gb294,2,none⟩ (.int .i64 ((rd_T88 l0_1 x10_1).f2)))).cell? _=some _ from hx296_2));clear hn296_0 hn296_1 hn296_2;replace p296:=eq_true p296;replace q296:=eq_true q296)))
         go_ret
         exact ⟨qz3,qz110⟩
        ·rw [if_neg c10] at H
         have c10b0:(((rd_T88 l0_1 x10_1).f1) == ((rd_T47 l1 0).f1))=false:=beq_eq_false_iff_ne.mpr c10
         have c10b1:(((rd_T88 l0_1 x10_1).f1) != ((rd_T47 l1 0).f1))=true:=bne_iff_ne.mpr c10
         have H':=Aside0.mk H
         clear H
         have p293:0≤(x10_1:Int):=of_decide_eq_true qz7
         have q293:x10_1<(l0_1.length:Int):=of_decide_eq_true qz7
         obtain ⟨ad293,e293,hx293_0,hx293_1,hx293_2⟩:=at_T88 HR0_1.out x10_1 p293 q293
         cases e293
         replace hx293_0:=(HB.out.cell (World.block_lt_of_cell? w _ hx293_0)).trans hx293_0
         replace hx293_1:=(HB.out.cell (World.block_lt_of_cell? w _ hx293_1)).trans hx293_1
         replace hx293_2:=(HB.out.cell (World.block_lt_of_cell? w _ hx293_2)).trans hx293_2
         replace p293:=eq_true p293
         replace q293:=eq_true q293
         go_wp2_with (first|((with_reducible refine gate_dst (N:=6) rfl ?_);refine box_event ?hg (N:=6) ?hd (cs:=#[.string (⟨#[]⟩:ByteArray),.int .i64 0,.int .i64 0]) (t:=88) ?hr ?_;(case hd=>rfl);(case hg=>rfl);(case hr=>first|(go_simp;done)|(go_simp;rfl));intro gb294 hg w14 hbox hb;have n0_:=Aside0.mk (blk_below (g:=gb292) (o:=.cells #[.slice A0_0 l0_0.length c0_0,.slice (some ad293) l0_1.length c0_1] 33 (0,0)) qz24 hb);have n1_:=Aside0.mk (below_step qz11 hb);have n2_:=Aside0.mk (hbox);have n3_:=Aside0.mk ((by rw [hg];exact (below_size qz11):w.heap.size≤gb294));have n4_:=Aside0.mk ((by rw [hg];exact (below_size qz11):w.heap.size≤gb294));have n5_:=Aside0.mk ((by rw [hg];exact Nat.ne_of_lt (blk_lt (g:=gb292) (o:=.cells #[.slice A0_0 l0_0.length c0_0,.slice (some ad293) l0_1.length c0_1] 33 (0,0)) qz24):gb292≠gb294));have n6_:=Aside0.mk ((by rw [hg];exact Nat.ne_of_gt (blk_lt (g:=gb292) (o:=.cells #[.slice A0_0 l0_0.length c0_0,.slice (some ad293) l0_1.length c0_1] 33 (0,0)) qz24):gb294≠gb292));clear BK292 HB;have BK292:=n0_;have HB:=n1_;have BK294:=n2_;have GW294:=n3_;have GE294:=n4_;have NB292_294:=n5_;have NB294_292:=n6_;clear n0_ n1_ n2_ n3_ n4_ n5_ n6_ hb hbox hg;have hnb15:=NB294_292.out;have hnc15:=NB292_294.out;have hcz16_0:w14.cell? ⟨gb294,0,none⟩=some (.string (⟨#[]⟩:ByteArray)):=(blk_cell BK294.out 0).trans rfl;have hcz16_1:w14.cell? ⟨gb294,1,none⟩=some (.int .i64 0):=(blk_cell BK294.out 1).trans rfl;have hcz16_2:w14.cell? ⟨gb294,2,none⟩=some (.int .i64 0):=(blk_cell BK294.out 2).trans rfl;have hfz16_0:=blk_frozen BK294.out 0;have hfz16_1:=blk_frozen BK294.out 1;have hfz16_2:=blk_frozen BK294.out 2;have p295:0≤(0:Int):=(by omega);have q295:0<(l1.length:Int):=of_decide_eq_true qz7;obtain ⟨ad295,e295,hx295_0,hx295_1,hx295_2⟩:=at_T47 HR1.out 0 p295 q295;cases e295;have qi295:(0<l1.length)=True:=eq_true (by omega);(try rw [show ((0:Int)).toNat=0 from rfl] at hx295_0);(try rw [show 0 * 3=0 from rfl] at hx295_0);(try rw [Addr.add_zero'] at hx295_0);(try rw [show ((0:Int)).toNat=0 from rfl] at hx295_1);(try rw [show 0 * 3=0 from rfl] at hx295_1);(try rw [Addr.add_zero'] at hx295_1);(try rw [show ((0:Int)).toNat=0 from rfl] at hx295_2);(try rw [show 0 * 3=0 from rfl] at hx295_2);(try rw [Addr.add_zero'] at hx295_2);have hn295_0:ad295.block≠gb294:=Nat.ne_of_lt (Nat.lt_of_lt_of_le (by have:=World.block_lt_of_cell? _ _ hx295_0;first|rwa [add_block] at this|exact this) GW294.out);have hn295_1:ad295.block≠gb294:=Nat.ne_of_lt (Nat.lt_of_lt_of_le (by have:=World.block_lt_of_cell? _ _ hx295_0;first|rwa [add_block] at this|exact this) GW294.out);have hn295_2:ad295.block≠gb294:=Nat.ne_of_lt (Nat.lt_of_lt_of_le (by have:=World.block_lt_of_cell? _ _ hx295_0;first|rwa [add_block] at this|exact this) GW294.out);replace hx295_0:=(HB.out.cell (World.block_lt_of_cell? w _ hx295_0)).trans hx295_0;replace hx295_1:=(HB.out.cell (World.block_lt_of_cell? w _ hx295_1)).trans hx295_1;replace hx295_2:=(HB.out.cell (World.block_lt_of_cell? w _ hx295_2)).trans hx295_2;replace hx295_0:=(cell_far (p:=⟨gb294,0,none⟩) qz22 (.string ((rd_T88 l0_1 x10_1).f0))).trans hx295_0;replace hx295_1:=(cell_far (p:=⟨gb294,0,none⟩) qz22 (.string ((rd_T88 l0_1 x10_1).f0))).trans hx295_1;replace hx295_2:=(cell_far (p:=⟨gb294,0,none⟩) qz22 (.string ((rd_T88 l0_1 x10_1).f0))).trans hx295_2;replace hx295_0:=(cell_far (p:=⟨gb294,1,none⟩) qz21 (.int .i64 ((rd_T88 l0_1 x10_1).f1))).trans hx295_0;replace hx295_1:=(cell_far (p:=⟨gb294,1,none⟩) qz21 (.int .i64 ((rd_T88 l0_1 x10_1).f1))).trans hx295_1;replace hx295_2:=(cell_far (p:=⟨gb294,1,none⟩) qz21 (.int .i64 ((rd_T88 l0_1 x10_1).f1))).trans hx295_2;replace hx295_0:=(cell_far (p:=⟨gb294,2,none⟩) qz20 (.int .i64 ((rd_T88 l0_1 x10_1).f2))).trans hx295_0;replace hx295_1:=(cell_far (p:=⟨gb294,2,none⟩) qz20 (.int .i64 ((rd_T88 l0_1 x10_1).f2))).trans hx295_1;replace hx295_2:=(cell_far (p:=⟨gb294,2,none⟩) qz20 (.int .i64 ((rd_T88 l0_1 x10_1).f2))).trans hx295_2;(try have hy295_0:=fun (n_:Nat)=>(show (((((w14.drewN n_).setCell ⟨gb294,0,none⟩ (.string ((rd_T88 l0_1 x10_1).f0))).setCell ⟨gb294,1,none⟩ (.int .i64 ((rd_T88 l0_1 x10_1).f1))).setCell ⟨gb294,2,none⟩ (.int .i64 ((rd_T88 l0_1 x10_1).f2)))).cell? _=some _ from hx295_0));(try have hy295_1:=fun (n_:Nat)=>(show (((((w14.drewN n_).setCell ⟨gb294,0,none⟩ (.string ((rd_T88 l0_1 x10_1).f0))).setCell ⟨gb294,1,none⟩ (.int .i64 ((rd_T88 l0_1 x10_1).f1))).setCell ⟨gb294,2,none⟩ (.int .i64 ((rd_T88 l0_1 x10_1).f2)))).cell? _=some _ from hx295_1));(try have hy295_2:=fun (n_:Nat)=>(show (((((w14.drewN n_).setCell ⟨gb294,0,none⟩ (.string ((rd_T88 l0_1 x10_1).f0))).setCell ⟨gb294,1,none⟩ (.int .i64 ((rd_T88 l0_1 x10_1).f1))).setCell ⟨gb294,2,none⟩ (.int .i64 ((rd_T88 l0_1 x10_1).f2)))).cell? _=some _ from hx295_2));clear hn295_0 hn295_1 hn295_2;replace p295:=eq_true p295;replace q295:=eq_true q295;have p296:0≤(0:Int):=(by omega);have q296:0<(l1.length:Int):=of_decide_eq_true qz7;obtain ⟨ad296,e296,hx296_0,hx296_1,hx296_2⟩:=at_T47 HR1.out 0 p296 q296;obtain rfl:ad295=ad296:=(by injection e296);have qi296:(0<l1.length)=True:=eq_true (by omega);(try rw [show ((0:Int)).toNat=0 from rfl] at hx296_0);(try rw [show 0 * 3=0 from rfl] at hx296_0);(try rw [Addr.add_zero'] at hx296_0);(try rw [show ((0:Int)).toNat=0 from rfl] at hx296_1);(try rw [show 0 * 3=0 from rfl] at hx296_1);(try rw [Addr.add_zero'] at hx296_1);(try rw [show ((0:Int)).toNat=0 from rfl] at hx296_2);(try rw [show 0 * 3=0 from rfl] at hx296_2);(try rw [Addr.add_zero'] at hx296_2);have hn296_0:ad295.block≠gb294:=Nat.ne_of_lt (Nat.lt_of_lt_of_le (by have:=World.block_lt_of_cell? _ _ hx296_0;first|rwa [add_block] at this|exact this) GW294.out);have hn296_1:ad295.block≠gb294:=Nat.ne_of_lt (Nat.lt_of_lt_of_le (by have:=World.block_lt_of_cell? _ _ hx296_0;first|rwa [add_block] at this|exact this) GW294.out);have hn296_2:ad295.block≠gb294:=Nat.ne_of_lt (Nat.lt_of_lt_of_le (by have:=World.block_lt_of_cell? _ _ hx296_0;first|rwa [add_block] at this|exact this) GW294.out);replace hx296_0:=(HB.out.cell (World.block_lt_of_cell? w _ hx296_0)).trans hx296_0;replace hx296_1:=(HB.out.cell (World.block_lt_of_cell? w _ hx296_1)).trans hx296_1;replace hx296_2:=(HB.out.cell (World.block_lt_of_cell? w _ hx296_2)).trans hx296_2;replace hx296_0:=(cell_far (p:=⟨gb294,0,none⟩) qz35 (.string ((rd_T88 l0_1 x10_1).f0))).trans hx296_0;replace hx296_1:=(cell_far (p:=⟨gb294,0,none⟩) qz35 (.string ((rd_T88 l0_1 x10_1).f0))).trans hx296_1;replace hx296_2:=(cell_far (p:=⟨gb294,0,none⟩) qz35 (.string ((rd_T88 l0_1 x10_1).f0))).trans hx296_2;replace hx296_0:=(cell_far (p:=⟨gb294,1,none⟩) qz34 (.int .i64 ((rd_T88 l0_1 x10_1).f1))).trans hx296_0;replace hx296_1:=(cell_far (p:=⟨gb294,1,none⟩) qz34 (.int .i64 ((rd_T88 l0_1 x10_1).f1))).trans hx296_1;replace hx296_2:=(cell_far (p:=⟨gb294,1,none⟩) qz34 (.int .i64 ((rd_T88 l0_1 x10_1).f1))).trans hx296_2;replace hx296_0:=(cell_far (p:=⟨gb294,2,none⟩) qz33 (.int .i64 ((rd_T88 l0_1 x10_1).f2))).trans hx296_0;replace hx296_1:=(cell_far (p:=⟨gb294,2,none⟩) qz33 (.int .i64 ((rd_T88 l0_1 x10_1).f2))).trans hx296_1;replace hx296_2:=(cell_far (p:=⟨gb294,2,none⟩) qz33 (.int .i64 ((rd_T88 l0_1 x10_1).f2))).trans hx296_2;(try have hy296_0:=fun (n_:Nat)=>(show (((((w14.drewN n_).setCell ⟨gb294,0,none⟩ (.string ((rd_T88 l0_1 x10_1).f0))).setCell ⟨gb294,1,none⟩ (.int .i64 ((rd_T88 l0_1 x10_1).f1))).setCell ⟨gb294,2,none⟩ (.int .i64 ((rd_T88 l0_1 x10_1).f2)))).cell? _=some _ from hx296_0));(try have hy296_1:=fun (n_:Nat)=>(show (((((w14.drewN n_).setCell ⟨gb294,0,none⟩ (.string ((rd_T88 l0_1 x10_1).f0))).setCell ⟨gb294,1,none⟩ (.int .i64 ((rd_T88 l0_1 x10_1).f1))).setCell ⟨gb294,2,none⟩ (.int .i64 ((rd_T88 l0_1 x10_1).f2)))).cell? _=some _ from hx296_1));(try have hy296_2:=fun (n_:Nat)=>(show (((((w14.drewN n_).setCell ⟨gb294,0,none⟩ (.string ((rd_T88 l0_1 x10_1).f0))).setCell ⟨gb294,1,none⟩ (.int .i64 ((rd_T88 l0_1 x10_1).f1))).setCell ⟨gb294,2,none⟩ (.int .i64 ((rd_T88 l0_1 x10_1).f2)))).cell? _=some _ from hx296_2));clear hn296_0 hn296_1 hn296_2;replace p296:=eq_true p296;replace q296:=eq_true q296))
         repeat (go_quiet (first|((with_reducible refine gate_dst (N:=6) rfl ?_);refine box_event ?hg (N:=6) ?hd (cs:=#[.string (⟨#[]⟩:ByteArray),.int .i64 0,.int .i64 0]) (t:=88) ?hr ?_;(case hd=>rfl);(case hg=>rfl);(case hr=>first|(go_simp;done)|(go_simp;rfl));intro gb294 hg w14 hbox hb;have n0_:=Aside0.mk (blk_below (g:=gb292) (o:=.cells #[.slice A0_0 l0_0.length c0_0,.slice (some ad293) l0_1.length c0_1] 33 (0,0)) qz24 hb);have n1_:=Aside0.mk (below_step qz11 hb);have n2_:=Aside0.mk (hbox);have n3_:=Aside0.mk ((by rw [hg];exact (below_size qz11):w.heap.size≤gb294));have n4_:=Aside0.mk ((by rw [hg];exact (below_size qz11):w.heap.size≤gb294));have n5_:=Aside0.mk ((by rw [hg];exact Nat.ne_of_lt (blk_lt (g:=gb292) (o:=.cells #[.slice A0_0 l0_0.length c0_0,.slice (some ad293) l0_1.length c0_1] 33 (0,0)) qz24):gb292≠gb294));have n6_:=Aside0.mk ((by rw [hg];exact Nat.ne_of_gt (blk_lt (g:=gb292) (o:=.cells #[.slice A0_0 l0_0.length c0_0,.slice (some ad293) l0_1.length c0_1] 33 (0,0)) qz24):gb294≠gb292));clear BK292 HB;have BK292:=n0_;have HB:=n1_;have BK294:=n2_;have GW294:=n3_;have GE294:=n4_;have NB292_294:=n5_;have NB294_292:=n6_;clear n0_ n1_ n2_ n3_ n4_ n5_ n6_ hb hbox hg;have hnb15:=NB294_292.out;have hnc15:=NB292_294.out;have hcz16_0:w14.cell? ⟨gb294,0,none⟩=some (.string (⟨#[]⟩:ByteArray)):=(blk_cell BK294.out 0).trans rfl;have hcz16_1:w14.cell? ⟨gb294,1,none⟩=some (.int .i64 0):=(blk_cell BK294.out 1).trans rfl;have hcz16_2:w14.cell? ⟨gb294,2,none⟩=some (.int .i64 0):=(blk_cell BK294.out 2).trans rfl;have hfz16_0:=blk_frozen BK294.out 0;have hfz16_1:=blk_frozen BK294.out 1;have hfz16_2:=blk_frozen BK294.out 2;have p295:0≤(0:Int):=(by omega);have q295:0<(l1.length:Int):=of_decide_eq_true qz7;obtain ⟨ad295,e295,hx295_0,hx295_1,hx295_2⟩:=at_T47 HR1.out 0 p295 q295;cases e295;have qi295:(0<l1.length)=True:=eq_true (by omega);(try rw [show ((0:Int)).toNat=0 from rfl] at hx295_0);(try rw [show 0 * 3=0 from rfl] at hx295_0);(try rw [Addr.add_zero'] at hx295_0);(try rw [show ((0:Int)).toNat=0 from rfl] at hx295_1);(try rw [show 0 * 3=0 from rfl] at hx295_1);(try rw [Addr.add_zero'] at hx295_1);(try rw [show ((0:Int)).toNat=0 from rfl] at hx295_2);(try rw [show 0 * 3=0 from rfl] at hx295_2);(try rw [Addr.add_zero'] at hx295_2);have hn295_0:ad295.block≠gb294:=Nat.ne_of_lt (Nat.lt_of_lt_of_le (by have:=World.block_lt_of_cell? _ _ hx295_0;first|rwa [add_block] at this|exact this) GW294.out);have hn295_1:ad295.block≠gb294:=Nat.ne_of_lt (Nat.lt_of_lt_of_le (by have:=World.block_lt_of_cell? _ _ hx295_0;first|rwa [add_block] at this|exact this) GW294.out);have hn295_2:ad295.block≠gb294:=Nat.ne_of_lt (Nat.lt_of_lt_of_le (by have:=World.block_lt_of_cell? _ _ hx295_0;first|rwa [add_block] at this|exact this) GW294.out);replace hx295_0:=(HB.out.cell (World.block_lt_of_cell? w _ hx295_0)).trans hx295_0;replace hx295_1:=(HB.out.cell (World.block_lt_of_cell? w _ hx295_1)).trans hx295_1;replace hx295_2:=(HB.out.cell (World.block_lt_of_cell? w _ hx295_2)).trans hx295_2;replace hx295_0:=(cell_far (p:=⟨gb294,0,none⟩) qz22 (.string ((rd_T88 l0_1 x10_1).f0))).trans hx295_0;replace hx295_1:=(cell_far (p:=⟨gb294,0,none⟩) qz22 (.string ((rd_T88 l0_1 x10_1).f0))).trans hx295_1;replace hx295_2:=(cell_far (p:=⟨gb294,0,none⟩) qz22 (.string ((rd_T88 l0_1 x10_1).f0))).trans hx295_2;replace hx295_0:=(cell_far (p:=⟨gb294,1,none⟩) qz21 (.int .i64 ((rd_T88 l0_1 x10_1).f1))).trans hx295_0;replace hx295_1:=(cell_far (p:=⟨gb294,1,none⟩) qz21 (.int .i64 ((rd_T88 l0_1 x10_1).f1))).trans hx295_1;replace hx295_2:=(cell_far (p:=⟨gb294,1,none⟩) qz21 (.int .i64 ((rd_T88 l0_1 x10_1).f1))).trans hx295_2;replace hx295_0:=(cell_far (p:=⟨gb294,2,none⟩) qz20 (.int .i64 ((rd_T88 l0_1 x10_1).f2))).trans hx295_0;replace hx295_1:=(cell_far (p:=⟨gb294,2,none⟩) qz20 (.int .i64 ((rd_T88 l0_1 x10_1).f2))).trans hx295_1;replace hx295_2:=(cell_far (p:=⟨gb294,2,none⟩) qz20 (.int .i64 ((rd_T88 l0_1 x10_1).f2))).trans hx295_2;(try have hy295_0:=fun (n_:Nat)=>(show (((((w14.drewN n_).setCell ⟨gb294,0,none⟩ (.string ((rd_T88 l0_1 x10_1).f0))).setCell ⟨gb294,1,none⟩ (.int .i64 ((rd_T88 l0_1 x10_1).f1))).setCell ⟨gb294,2,none⟩ (.int .i64 ((rd_T88 l0_1 x10_1).f2)))).cell? _=some _ from hx295_0));(try have hy295_1:=fun (n_:Nat)=>(show (((((w14.drewN n_).setCell ⟨gb294,0,none⟩ (.string ((rd_T88 l0_1 x10_1).f0))).setCell ⟨gb294,1,none⟩ (.int .i64 ((rd_T88 l0_1 x10_1).f1))).setCell ⟨gb294,2,none⟩ (.int .i64 ((rd_T88 l0_1 x10_1).f2)))).cell? _=some _ from hx295_1));(try have hy295_2:=fun (n_:Nat)=>(show (((((w14.drewN n_).setCell ⟨gb294,0,none⟩ (.string ((rd_T88 l0_1 x10_1).f0))).setCell ⟨gb294,1,none⟩ (.int .i64 ((rd_T88 l0_1 x10_1).f1))).setCell ⟨gb294,2,none⟩ (.int .i64 ((rd_T88 l0_1 x10_1).f2)))).cell? _=some _ from hx295_2));clear hn295_0 hn295_1 hn295_2;replace p295:=eq_true p295;replace q295:=eq_true q295;have p296:0≤(0:Int):=(by omega);have q296:0<(l1.length:Int):=of_decide_eq_true qz7;obtain ⟨ad296,e296,hx296_0,hx296_1,hx296_2⟩:=at_T47 HR1.out 0 p296 q296;obtain rfl:ad295=ad296:=(by injection e296);have qi296:(0<l1.length)=True:=eq_true (by omega);(try rw [show ((0:Int)).toNat=0 from rfl] at hx296_0);(try rw [show 0 * 3=0 from rfl] at hx296_0);(try rw [Addr.add_zero'] at hx296_0);(try rw [show ((0:Int)).toNat=0 from rfl] at hx296_1);(try rw [show 0 * 3=0 from rfl] at hx296_1);(try rw [Addr.add_zero'] at hx296_1);(try rw [show ((0:Int)).toNat=0 from rfl] at hx296_2);(try rw [show 0 * 3=0 from rfl] at hx296_2);(try rw [Addr.add_zero'] at hx296_2);have hn296_0:ad295.block≠gb294:=Nat.ne_of_lt (Nat.lt_of_lt_of_le (by have:=World.block_lt_of_cell? _ _ hx296_0;first|rwa [add_block] at this|exact this) GW294.out);have hn296_1:ad295.block≠gb294:=Nat.ne_of_lt (Nat.lt_of_lt_of_le (by have:=World.block_lt_of_cell? _ _ hx296_0;first|rwa [add_block] at this|exact this) GW294.out);have hn296_2:ad295.block≠gb294:=Nat.ne_of_lt (Nat.lt_of_lt_of_le (by have:=World.block_lt_of_cell? _ _ hx296_0;first|rwa [add_block] at this|exact this) GW294.out);replace hx296_0:=(HB.out.cell (World.block_lt_of_cell? w _ hx296_0)).trans hx296_0;replace hx296_1:=(HB.out.cell (World.block_lt_of_cell? w _ hx296_1)).trans hx296_1;replace hx296_2:=(HB.out.cell (World.block_lt_of_cell? w _ hx296_2)).trans hx296_2;replace hx296_0:=(cell_far (p:=⟨gb294,0,none⟩) qz35 (.string ((rd_T88 l0_1 x10_1).f0))).trans hx296_0;replace hx296_1:=(cell_far (p:=⟨gb294,0,none⟩) qz35 (.string ((rd_T88 l0_1 x10_1).f0))).trans hx296_1;replace hx296_2:=(cell_far (p:=⟨gb294,0,none⟩) qz35 (.string ((rd_T88 l0_1 x10_1).f0))).trans hx296_2;replace hx296_0:=(cell_far (p:=⟨gb294,1,none⟩) qz34 (.int .i64 ((rd_T88 l0_1 x10_1).f1))).trans hx296_0;replace hx296_1:=(cell_far (p:=⟨gb294,1,none⟩) qz34 (.int .i64 ((rd_T88 l0_1 x10_1).f1))).trans hx296_1;replace hx296_2:=(cell_far (p:=⟨gb294,1,none⟩) qz34 (.int .i64 ((rd_T88 l0_1 x10_1).f1))).trans hx296_2;replace hx296_0:=(cell_far (p:=⟨gb294,2,none⟩) qz33 (.int .i64 ((rd_T88 l0_1 x10_1).f2))).trans hx296_0;replace hx296_1:=(cell_far (p:=⟨gb294,2,none⟩) qz33 (.int .i64 ((rd_T88 l0_1 x10_1).f2))).trans hx296_1;replace hx296_2:=(cell_far (p:=⟨gb294,2,none⟩) qz33 (.int .i64 ((rd_T88 l0_1 x10_1).f2))).trans hx296_2;(try have hy296_0:=fun (n_:Nat)=>(show (((((w14.drewN n_).setCell ⟨gb294,0,none⟩ (.string ((rd_T88 l0_1 x10_1).f0))).setCell ⟨gb294,1,none⟩ (.int .i64 ((rd_T88 l0_1 x10_1).f1))).setCell ⟨gb294,2,none⟩ (.int .i64 ((rd_T88 l0_1 x10_1).f2)))).cell? _=some _ from hx296_0));(try have hy296_1:=fun (n_:Nat)=>(show (((((w14.drewN n_).setCell ⟨gb294,0,none⟩ (.string ((rd_T88 l0_1 x10_1).f0))).setCell ⟨gb294,1,none⟩ (.int .i64 ((rd_T88 l0_1 x10_1).f1))).setCell ⟨gb294,2,none⟩ (.int .i64 ((rd_T88 l0_1 x10_1).f2)))).cell? _=some _ from hx296_1));(try have hy296_2:=fun (n_:Nat)=>(show (((((w14.drewN n_).setCell ⟨gb294,0,none⟩ (.string ((rd_T88 l0_1 x10_1).f0))).setCell ⟨gb294,1,none⟩ (.int .i64 ((rd_T88 l0_1 x10_1).f1))).setCell ⟨gb294,2,none⟩ (.int .i64 ((rd_T88 l0_1 x10_1).f2)))).cell? _=some _ from hx296_2));clear hn296_0 hn296_1 hn296_2;replace p296:=eq_true p296;replace q296:=eq_true q296));try go_wp2_with (first|((with_reducible refine gate_dst (N:=6) rfl ?_);refine box_event ?hg (N:=6) ?hd (cs:=#[.string (⟨#[]⟩:ByteArray),.int .i64 0,.int .i64 0]) (t:=88) ?hr ?_;(case hd=>rfl);(case hg=>rfl);(case hr=>first|(go_simp;done)|(go_simp;rfl));intro gb294 hg w14 hbox hb;have n0_:=Aside0.mk (blk_below (g:=gb292) (o:=.cells #[.slice A0_0 l0_0.length c0_0,.slice (some ad293) l0_1.length c0_1] 33 (0,0)) qz24 hb);have n1_:=Aside0.mk (below_step qz11 hb);have n2_:=Aside0.mk (hbox);have n3_:=Aside0.mk ((by rw [hg];exact (below_size qz11):w.heap.size≤gb294));have n4_:=Aside0.mk ((by rw [hg];exact (below_size qz11):w.heap.size≤gb294));have n5_:=Aside0.mk ((by rw [hg];exact Nat.ne_of_lt (blk_lt (g:=gb292) (o:=.cells #[.slice A0_0 l0_0.length c0_0,.slice (some ad293) l0_1.length c0_1] 33 (0,0)) qz24):gb292≠gb294));have n6_:=Aside0.mk ((by rw [hg];exact Nat.ne_of_gt (blk_lt (g:=gb292) (o:=.cells #[.slice A0_0 l0_0.length c0_0,.slice (some ad293) l0_1.length c0_1] 33 (0,0)) qz24):gb294≠gb292));clear BK292 HB;have BK292:=n0_;have HB:=n1_;have BK294:=n2_;have GW294:=n3_;have GE294:=n4_;have NB292_294:=n5_;have NB294_292:=n6_;clear n0_ n1_ n2_ n3_ n4_ n5_ n6_ hb hbox hg;have hnb15:=NB294_292.out;have hnc15:=NB292_294.out;have hcz16_0:w14.cell? ⟨gb294,0,none⟩=some (.string (⟨#[]⟩:ByteArray)):=(blk_cell BK294.out 0).trans rfl;have hcz16_1:w14.cell? ⟨gb294,1,none⟩=some (.int .i64 0):=(blk_cell BK294.out 1).trans rfl;have hcz16_2:w14.cell? ⟨gb294,2,none⟩=some (.int .i64 0):=(blk_cell BK294.out 2).trans rfl;have hfz16_0:=blk_frozen BK294.out 0;have hfz16_1:=blk_frozen BK294.out 1;have hfz16_2:=blk_frozen BK294.out 2;have p295:0≤(0:Int):=(by omega);have q295:0<(l1.length:Int):=of_decide_eq_true qz7;obtain ⟨ad295,e295,hx295_0,hx295_1,hx295_2⟩:=at_T47 HR1.out 0 p295 q295;cases e295;have qi295:(0<l1.length)=True:=eq_true (by omega);(try rw [show ((0:Int)).toNat=0 from rfl] at hx295_0);(try rw [show 0 * 3=0 from rfl] at hx295_0);(try rw [Addr.add_zero'] at hx295_0);(try rw [show ((0:Int)).toNat=0 from rfl] at hx295_1);(try rw [show 0 * 3=0 from rfl] at hx295_1);(try rw [Addr.add_zero'] at hx295_1);(try rw [show ((0:Int)).toNat=0 from rfl] at hx295_2);(try rw [show 0 * 3=0 from rfl] at hx295_2);(try rw [Addr.add_zero'] at hx295_2);have hn295_0:ad295.block≠gb294:=Nat.ne_of_lt (Nat.lt_of_lt_of_le (by have:=World.block_lt_of_cell? _ _ hx295_0;first|rwa [add_block] at this|exact this) GW294.out);have hn295_1:ad295.block≠gb294:=Nat.ne_of_lt (Nat.lt_of_lt_of_le (by have:=World.block_lt_of_cell? _ _ hx295_0;first|rwa [add_block] at this|exact this) GW294.out);have hn295_2:ad295.block≠gb294:=Nat.ne_of_lt (Nat.lt_of_lt_of_le (by have:=World.block_lt_of_cell? _ _ hx295_0;first|rwa [add_block] at this|exact this) GW294.out);replace hx295_0:=(HB.out.cell (World.block_lt_of_cell? w _ hx295_0)).trans hx295_0;replace hx295_1:=(HB.out.cell (World.block_lt_of_cell? w _ hx295_1)).trans hx295_1;replace hx295_2:=(HB.out.cell (World.block_lt_of_cell? w _ hx295_2)).trans hx295_2;replace hx295_0:=(cell_far (p:=⟨gb294,0,none⟩) qz22 (.string ((rd_T88 l0_1 x10_1).f0))).trans hx295_0;replace hx295_1:=(cell_far (p:=⟨gb294,0,none⟩) qz22 (.string ((rd_T88 l0_1 x10_1).f0))).trans hx295_1;replace hx295_2:=(cell_far (p:=⟨gb294,0,none⟩) qz22 (.string ((rd_T88 l0_1 x10_1).f0))).trans hx295_2;replace hx295_0:=(cell_far (p:=⟨gb294,1,none⟩) qz21 (.int .i64 ((rd_T88 l0_1 x10_1).f1))).trans hx295_0;replace hx295_1:=(cell_far (p:=⟨gb294,1,none⟩) qz21 (.int .i64 ((rd_T88 l0_1 x10_1).f1))).trans hx295_1;replace hx295_2:=(cell_far (p:=⟨gb294,1,none⟩) qz21 (.int .i64 ((rd_T88 l0_1 x10_1).f1))).trans hx295_2;replace hx295_0:=(cell_far (p:=⟨gb294,2,none⟩) qz20 (.int .i64 ((rd_T88 l0_1 x10_1).f2))).trans hx295_0;replace hx295_1:=(cell_far (p:=⟨gb294,2,none⟩) qz20 (.int .i64 ((rd_T88 l0_1 x10_1).f2))).trans hx295_1;replace hx295_2:=(cell_far (p:=⟨gb294,2,none⟩) qz20 (.int .i64 ((rd_T88 l0_1 x10_1).f2))).trans hx295_2;(try have hy295_0:=fun (n_:Nat)=>(show (((((w14.drewN n_).setCell ⟨gb294,0,none⟩ (.string ((rd_T88 l0_1 x10_1).f0))).setCell ⟨gb294,1,none⟩ (.int .i64 ((rd_T88 l0_1 x10_1).f1))).setCell ⟨gb294,2,none⟩ (.int .i64 ((rd_T88 l0_1 x10_1).f2)))).cell? _=some _ from hx295_0));(try have hy295_1:=fun (n_:Nat)=>(show (((((w14.drewN n_).setCell ⟨gb294,0,none⟩ (.string ((rd_T88 l0_1 x10_1).f0))).setCell ⟨gb294,1,none⟩ (.int .i64 ((rd_T88 l0_1 x10_1).f1))).setCell ⟨gb294,2,none⟩ (.int .i64 ((rd_T88 l0_1 x10_1).f2)))).cell? _=some _ from hx295_1));(try have hy295_2:=fun (n_:Nat)=>(show (((((w14.drewN n_).setCell ⟨gb294,0,none⟩ (.string ((rd_T88 l0_1 x10_1).f0))).setCell ⟨gb294,1,none⟩ (.int .i64 ((rd_T88 l0_1 x10_1).f1))).setCell ⟨gb294,2,none⟩ (.int .i64 ((rd_T88 l0_1 x10_1).f2)))).cell? _=some _ from hx295_2));clear hn295_0 hn295_1 hn295_2;replace p295:=eq_true p295;replace q295:=eq_true q295;have p296:0≤(0:Int):=(by omega);have q296:0<(l1.length:Int):=of_decide_eq_true qz7;obtain ⟨ad296,e296,hx296_0,hx296_1,hx296_2⟩:=at_T47 HR1.out 0 p296 q296;obtain rfl:ad295=ad296:=(by injection e296);have qi296:(0<l1.length)=True:=eq_true (by omega);(try rw [show ((0:Int)).toNat=0 from rfl] at hx296_0);(try rw [show 0 * 3=0 from rfl] at hx296_0);(try rw [Addr.add_zero'] at hx296_0);(try rw [show ((0:Int)).toNat=0 from rfl] at hx296_1);(try rw [show 0 * 3=0 from rfl] at hx296_1);(try rw [Addr.add_zero'] at hx296_1);(try rw [show ((0:Int)).toNat=0 from rfl] at hx296_2);(try rw [show 0 * 3=0 from rfl] at hx296_2);(try rw [Addr.add_zero'] at hx296_2);have hn296_0:ad295.block≠gb294:=Nat.ne_of_lt (Nat.lt_of_lt_of_le (by have:=World.block_lt_of_cell? _ _ hx296_0;first|rwa [add_block] at this|exact this) GW294.out);have hn296_1:ad295.block≠gb294:=Nat.ne_of_lt (Nat.lt_of_lt_of_le (by have:=World.block_lt_of_cell? _ _ hx296_0;first|rwa [add_block] at this|exact this) GW294.out);have hn296_2:ad295.block≠gb294:=Nat.ne_of_lt (Nat.lt_of_lt_of_le (by have:=World.block_lt_of_cell? _ _ hx296_0;first|rwa [add_block] at this|exact this) GW294.out);replace hx296_0:=(HB.out.cell (World.block_lt_of_cell? w _ hx296_0)).trans hx296_0;replace hx296_1:=(HB.out.cell (World.block_lt_of_cell? w _ hx296_1)).trans hx296_1;replace hx296_2:=(HB.out.cell (World.block_lt_of_cell? w _ hx296_2)).trans hx296_2;replace hx296_0:=(cell_far (p:=⟨gb294,0,none⟩) qz35 (.string ((rd_T88 l0_1 x10_1).f0))).trans hx296_0;replace hx296_1:=(cell_far (p:=⟨gb294,0,none⟩) qz35 (.string ((rd_T88 l0_1 x10_1).f0))).trans hx296_1;replace hx296_2:=(cell_far (p:=⟨gb294,0,none⟩) qz35 (.string ((rd_T88 l0_1 x10_1).f0))).trans hx296_2;replace hx296_0:=(cell_far (p:=⟨gb294,1,none⟩) qz34 (.int .i64 ((rd_T88 l0_1 x10_1).f1))).trans hx296_0;replace hx296_1:=(cell_far (p:=⟨gb294,1,none⟩) qz34 (.int .i64 ((rd_T88 l0_1 x10_1).f1))).trans hx296_1;replace hx296_2:=(cell_far (p:=⟨gb294,1,none⟩) qz34 (.int .i64 ((rd_T88 l0_1 x10_1).f1))).trans hx296_2;replace hx296_0:=(cell_far (p:=⟨gb294,2,none⟩) qz33 (.int .i64 ((rd_T88 l0_1 x10_1).f2))).trans hx296_0;replace hx296_1:=(cell_far (p:=⟨gb294,2,none⟩) qz33 (.int .i64 ((rd_T88 l0_1 x10_1).f2))).trans hx296_1;replace hx296_2:=(cell_far (p:=⟨gb294,2,none⟩) qz33 (.int .i64 ((rd_T88 l0_1 x10_1).f2))).trans hx296_2;(try have hy296_0:=fun (n_:Nat)=>(show (((((w14.drewN n_).setCell ⟨gb294,0,none⟩ (.string ((rd_T88 l0_1 x10_1).f0))).setCell ⟨gb294,1,none⟩ (.int .i64 ((rd_T88 l0_1 x10_1).f1))).setCell ⟨gb294,2,none⟩ (.int .i64 ((rd_T88 l0_1 x10_1).f2)))).cell? _=some _ from hx296_0));(try have hy296_1:=fun (n_:Nat)=>(show (((((w14.drewN n_).setCell ⟨gb294,0,none⟩ (.string ((rd_T88 l0_1 x10_1).f0))).setCell ⟨gb294,1,none⟩ (.int .i64 ((rd_T88 l0_1 x10_1).f1))).setCell ⟨gb294,2,none⟩ (.int .i64 ((rd_T88 l0_1 x10_1).f2)))).cell? _=some _ from hx296_1));(try have hy296_2:=fun (n_:Nat)=>(show (((((w14.drewN n_).setCell ⟨gb294,0,none⟩ (.string ((rd_T88 l0_1 x10_1).f0))).setCell ⟨gb294,1,none⟩ (.int .i64 ((rd_T88 l0_1 x10_1).f1))).setCell ⟨gb294,2,none⟩ (.int .i64 ((rd_T88 l0_1 x10_1).f2)))).cell? _=some _ from hx296_2));clear hn296_0 hn296_1 hn296_2;replace p296:=eq_true p296;replace q296:=eq_true q296)))
         go_roundg k1
         case measure=>have:=HK1.out;omega
         case rel=>exact ⟨(wrap64 (x10_1+1)),qz12,H',⟨by have:=HK1.out;omega⟩,⟨qz96⟩,⟨qz110⟩⟩
       ·rw [if_neg c9] at H
        have c9b0:(((rd_T88 l0_1 x10_1).f0).toList == ((rd_T47 l1 0).f2).toList)=false:=beq_eq_false_iff_ne.mpr c9
        have c9b1:(((rd_T88 l0_1 x10_1).f0).toList != ((rd_T47 l1 0).f2).toList)=true:=bne_iff_ne.mpr c9
        have H':=Aside0.mk H
        clear H
        have p293:0≤(x10_1:Int):=of_decide_eq_true qz7
        have q293:x10_1<(l0_1.length:Int):=of_decide_eq_true qz7
        obtain ⟨ad293,e293,hx293_0,hx293_1,hx293_2⟩:=at_T88 HR0_1.out x10_1 p293 q293
        cases e293
        replace hx293_0:=(HB.out.cell (World.block_lt_of_cell? w _ hx293_0)).trans hx293_0
        replace hx293_1:=(HB.out.cell (World.block_lt_of_cell? w _ hx293_1)).trans hx293_1
        replace hx293_2:=(HB.out.cell (World.block_lt_of_cell? w _ hx293_2)).trans hx293_2
        replace p293:=eq_true p293
        replace q293:=eq_true q293
        go_wp2_with (first|((with_reducible refine gate_dst (N:=6) rfl ?_);refine box_event ?hg (N:=6) ?hd (cs:=#[.string (⟨#[]⟩:ByteArray),.int .i64 0,.int .i64 0]) (t:=88) ?hr ?_;(case hd=>rfl);(case hg=>rfl);(case hr=>first|(go_simp;done)|(go_simp;rfl));intro gb294 hg w17 hbox hb;have n0_:=Aside0.mk (blk_below (g:=gb292) (o:=.cells #[.slice A0_0 l0_0.length c0_0,.slice (some ad293) l0_1.length c0_1] 33 (0,0)) qz24 hb);have n1_:=Aside0.mk (below_step qz11 hb);have n2_:=Aside0.mk (hbox);have n3_:=Aside0.mk ((by rw [hg];exact (below_size qz11):w.heap.size≤gb294));have n4_:=Aside0.mk ((by rw [hg];exact (below_size qz11):w.heap.size≤gb294));have n5_:=Aside0.mk ((by rw [hg];exact Nat.ne_of_lt (blk_lt (g:=gb292) (o:=.cells #[.slice A0_0 l0_0.length c0_0,.slice (some ad293) l0_1.length c0_1] 33 (0,0)) qz24):gb292≠gb294));have n6_:=Aside0.mk ((by rw [hg];exact Nat.ne_of_gt (blk_lt (g:=gb292) (o:=.cells #[.slice A0_0 l0_0.length c0_0,.slice (some ad293) l0_1.length c0_1] 33 (0,0)) qz24):gb294≠gb292));clear BK292 HB;have BK292:=n0_;have HB:=n1_;have BK294:=n2_;have GW294:=n3_;have GE294:=n4_;have NB292_294:=n5_;have NB294_292:=n6_;clear n0_ n1_ n2_ n3_ n4_ n5_ n6_ hb hbox hg;have hnb18:=NB294_292.out;have hnc18:=NB292_294.out;have hcz19_0:w17.cell? ⟨gb294,0,none⟩=some (.string (⟨#[]⟩:ByteArray)):=(blk_cell BK294.out 0).trans rfl;have hcz19_1:w17.cell? ⟨gb294,1,none⟩=some (.int .i64 0):=(blk_cell BK294.out 1).trans rfl;have hcz19_2:w17.cell? ⟨gb294,2,none⟩=some (.int .i64 0):=(blk_cell BK294.out 2).trans rfl;have hfz19_0:=blk_frozen BK294.out 0;have hfz19_1:=blk_frozen BK294.out 1;have hfz19_2:=blk_frozen BK294.out 2;have p295:0≤(0:Int):=(by omega);have q295:0<(l1.length:Int):=of_decide_eq_true qz7;obtain ⟨ad295,e295,hx295_0,hx295_1,hx295_2⟩:=at_T47 HR1.out 0 p295 q295;cases e295;have qi295:(0<l1.length)=True:=eq_true (by omega);(try rw [show ((0:Int)).toNat=0 from rfl] at hx295_0);(try rw [show 0 * 3=0 from rfl] at hx295_0);(try rw [Addr.add_zero'] at hx295_0);(try rw [show ((0:Int)).toNat=0 from rfl] at hx295_1);(try rw [show 0 * 3=0 from rfl] at hx295_1);(try rw [Addr.add_zero'] at hx295_1);(try rw [show ((0:Int)).toNat=0 from rfl] at hx295_2);(try rw [show 0 * 3=0 from rfl] at hx295_2);(try rw [Addr.add_zero'] at hx295_2);have hn295_0:ad295.block≠gb294:=Nat.ne_of_lt (Nat.lt_of_lt_of_le (by have:=World.block_lt_of_cell? _ _ hx295_0;first|rwa [add_block] at this|exact this) GW294.out);have hn295_1:ad295.block≠gb294:=Nat.ne_of_lt (Nat.lt_of_lt_of_le (by have:=World.block_lt_of_cell? _ _ hx295_0;first|rwa [add_block] at this|exact this) GW294.out);have hn295_2:ad295.block≠gb294:=Nat.ne_of_lt (Nat.lt_of_lt_of_le (by have:=World.block_lt_of_cell? _ _ hx295_0;first|rwa [add_block] at this|exact this) GW294.out);replace hx295_0:=(HB.out.cell (World.block_lt_of_cell? w _ hx295_0)).trans hx295_0;replace hx295_1:=(HB.out.cell (World.block_lt_of_cell? w _ hx295_1)).trans hx295_1;replace hx295_2:=(HB.out.cell (World.block_lt_of_cell? w _ hx295_2)).trans hx295_2;replace hx295_0:=(cell_far (p:=⟨gb294,0,none⟩) qz22 (.string ((rd_T88 l0_1 x10_1).f0))).trans hx295_0;replace hx295_1:=(cell_far (p:=⟨gb294,0,none⟩) qz22 (.string ((rd_T88 l0_1 x10_1).f0))).trans hx295_1;replace hx295_2:=(cell_far (p:=⟨gb294,0,none⟩) qz22 (.string ((rd_T88 l0_1 x10_1).f0))).trans hx295_2;replace hx295_0:=(cell_far (p:=⟨gb294,1,none⟩) qz21 (.int .i64 ((rd_T88 l0_1 x10_1).f1))).trans hx295_0;replace hx295_1:=(cell_far (p:=⟨gb294,1,none⟩) qz21 (.int .i64 ((rd_T88 l0_1 x10_1).f1))).trans hx295_1;replace hx295_2:=(cell_far (p:=⟨gb294,1,none⟩) qz21 (.int .i64 ((rd_T88 l0_1 x10_1).f1))).trans hx295_2;replace hx295_0:=(cell_far (p:=⟨gb294,2,none⟩) qz20 (.int .i64 ((rd_T88 l0_1 x10_1).f2))).trans hx295_0;replace hx295_1:=(cell_far (p:=⟨gb294,2,none⟩) qz20 (.int .i64 ((rd_T88 l0_1 x10_1).f2))).trans hx295_1;replace hx295_2:=(cell_far (p:=⟨gb294,2,none⟩) qz20 (.int .i64 ((rd_T88 l0_1 x10_1).f2))).trans hx295_2;(try have hy295_0:=fun (n_:Nat)=>(show (((((w17.drewN n_).setCell ⟨gb294,0,none⟩ (.string ((rd_T88 l0_1 x10_1).f0))).setCell ⟨gb294,1,none⟩ (.int .i64 ((rd_T88 l0_1 x10_1).f1))).setCell ⟨gb294,2,none⟩ (.int .i64 ((rd_T88 l0_1 x10_1).f2)))).cell? _=some _ from hx295_0));(try have hy295_1:=fun (n_:Nat)=>(show (((((w17.drewN n_).setCell ⟨gb294,0,none⟩ (.string ((rd_T88 l0_1 x10_1).f0))).setCell ⟨gb294,1,none⟩ (.int .i64 ((rd_T88 l0_1 x10_1).f1))).setCell ⟨gb294,2,none⟩ (.int .i64 ((rd_T88 l0_1 x10_1).f2)))).cell? _=some _ from hx295_1));(try have hy295_2:=fun (n_:Nat)=>(show (((((w17.drewN n_).setCell ⟨gb294,0,none⟩ (.string ((rd_T88 l0_1 x10_1).f0))).setCell ⟨gb294,1,none⟩ (.int .i64 ((rd_T88 l0_1 x10_1).f1))).setCell ⟨gb294,2,none⟩ (.int .i64 ((rd_T88 l0_1 x10_1).f2)))).cell? _=some _ from hx295_2));clear hn295_0 hn295_1 hn295_2;replace p295:=eq_true p295;replace q295:=eq_true q295))
        repeat (go_quiet (first|((with_reducible refine gate_dst (N:=6) rfl ?_);refine box_event ?hg (N:=6) ?hd (cs:=#[.string (⟨#[]⟩:ByteArray),.int .i64 0,.int .i64 0]) (t:=88) ?hr ?_;(case hd=>rfl);(case hg=>rfl);(case hr=>first|(go_simp;done)|(go_simp;rfl));intro gb294 hg w17 hbox hb;have n0_:=Aside0.mk (blk_below (g:=gb292) (o:=.cells #[.slice A0_0 l0_0.length c0_0,.slice (some ad293) l0_1.length c0_1] 33 (0,0)) qz24 hb);have n1_:=Aside0.mk (below_step qz11 hb);have n2_:=Aside0.mk (hbox);have n3_:=Aside0.mk ((by rw [hg];exact (below_size qz11):w.heap.size≤gb294));have n4_:=Aside0.mk ((by rw [hg];exact (below_size qz11):w.heap.size≤gb294));have n5_:=Aside0.mk ((by rw [hg];exact Nat.ne_of_lt (blk_lt (g:=gb292) (o:=.cells #[.slice A0_0 l0_0.length c0_0,.slice (some ad293) l0_1.length c0_1] 33 (0,0)) qz24):gb292≠gb294));have n6_:=Aside0.mk ((by rw [hg];exact Nat.ne_of_gt (blk_lt (g:=gb292) (o:=.cells #[.slice A0_0 l0_0.length c0_0,.slice (some ad293) l0_1.length c0_1] 33 (0,0)) qz24):gb294≠gb292));clear BK292 HB;have BK292:=n0_;have HB:=n1_;have BK294:=n2_;have GW294:=n3_;have GE294:=n4_;have NB292_294:=n5_;have NB294_292:=n6_;clear n0_ n1_ n2_ n3_ n4_ n5_ n6_ hb hbox hg;have hnb18:=NB294_292.out;have hnc18:=NB292_294.out;have hcz19_0:w17.cell? ⟨gb294,0,none⟩=some (.string (⟨#[]⟩:ByteArray)):=(blk_cell BK294.out 0).trans rfl;have hcz19_1:w17.cell? ⟨gb294,1,none⟩=some (.int .i64 0):=(blk_cell BK294.out 1).trans rfl;have hcz19_2:w17.cell? ⟨gb294,2,none⟩=some (.int .i64 0):=(blk_cell BK294.out 2).trans rfl;have hfz19_0:=blk_frozen BK294.out 0;have hfz19_1:=blk_frozen BK294.out 1;have hfz19_2:=blk_frozen BK294.out 2;have p295:0≤(0:Int):=(by omega);have q295:0<(l1.length:Int):=of_decide_eq_true qz7;obtain ⟨ad295,e295,hx295_0,hx295_1,hx295_2⟩:=at_T47 HR1.out 0 p295 q295;cases e295;have qi295:(0<l1.length)=True:=eq_true (by omega);(try rw [show ((0:Int)).toNat=0 from rfl] at hx295_0);(try rw [show 0 * 3=0 from rfl] at hx295_0);(try rw [Addr.add_zero'] at hx295_0);(try rw [show ((0:Int)).toNat=0 from rfl] at hx295_1);(try rw [show 0 * 3=0 from rfl] at hx295_1);(try rw [Addr.add_zero'] at hx295_1);(try rw [show ((0:Int)).toNat=0 from rfl] at hx295_2);(try rw [show 0 * 3=0 from rfl] at hx295_2);(try rw [Addr.add_zero'] at hx295_2);have hn295_0:ad295.block≠gb294:=Nat.ne_of_lt (Nat.lt_of_lt_of_le (by have:=World.block_lt_of_cell? _ _ hx295_0;first|rwa [add_block] at this|exact this) GW294.out);have hn295_1:ad295.block≠gb294:=Nat.ne_of_lt (Nat.lt_of_lt_of_le (by have:=World.block_lt_of_cell? _ _ hx295_0;first|rwa [add_block] at this|exact this) GW294.out);have hn295_2:ad295.block≠gb294:=Nat.ne_of_lt (Nat.lt_of_lt_of_le (by have:=World.block_lt_of_cell? _ _ hx295_0;first|rwa [add_block] at this|exact this) GW294.out);replace hx295_0:=(HB.out.cell (World.block_lt_of_cell? w _ hx295_0)).trans hx295_0;replace hx295_1:=(HB.out.cell (World.block_lt_of_cell? w _ hx295_1)).trans hx295_1;replace hx295_2:=(HB.out.cell (World.block_lt_of_cell? w _ hx295_2)).trans hx295_2;replace hx295_0:=(cell_far (p:=⟨gb294,0,none⟩) qz22 (.string ((rd_T88 l0_1 x10_1).f0))).trans hx295_0;replace hx295_1:=(cell_far (p:=⟨gb294,0,none⟩) qz22 (.string ((rd_T88 l0_1 x10_1).f0))).trans hx295_1;replace hx295_2:=(cell_far (p:=⟨gb294,0,none⟩) qz22 (.string ((rd_T88 l0_1 x10_1).f0))).trans hx295_2;replace hx295_0:=(cell_far (p:=⟨gb294,1,none⟩) qz21 (.int .i64 ((rd_T88 l0_1 x10_1).f1))).trans hx295_0;replace hx295_1:=(cell_far (p:=⟨gb294,1,none⟩) qz21 (.int .i64 ((rd_T88 l0_1 x10_1).f1))).trans hx295_1;replace hx295_2:=(cell_far (p:=⟨gb294,1,none⟩) qz21 (.int .i64 ((rd_T88 l0_1 x10_1).f1))).trans hx295_2;replace hx295_0:=(cell_far (p:=⟨gb294,2,none⟩) qz20 (.int .i64 ((rd_T88 l0_1 x10_1).f2))).trans hx295_0;replace hx295_1:=(cell_far (p:=⟨gb294,2,none⟩) qz20 (.int .i64 ((rd_T88 l0_1 x10_1).f2))).trans hx295_1;replace hx295_2:=(cell_far (p:=⟨gb294,2,none⟩) qz20 (.int .i64 ((rd_T88 l0_1 x10_1).f2))).trans hx295_2;(try have hy295_0:=fun (n_:Nat)=>(show (((((w17.drewN n_).setCell ⟨gb294,0,none⟩ (.string ((rd_T88 l0_1 x10_1).f0))).setCell ⟨gb294,1,none⟩ (.int .i64 ((rd_T88 l0_1 x10_1).f1))).setCell ⟨gb294,2,none⟩ (.int .i64 ((rd_T88 l0_1 x10_1).f2)))).cell? _=some _ from hx295_0));(try have hy295_1:=fun (n_:Nat)=>(show (((((w17.drewN n_).setCell ⟨gb294,0,none⟩ (.string ((rd_T88 l0_1 x10_1).f0))).setCell ⟨gb294,1,none⟩ (.int .i64 ((rd_T88 l0_1 x10_1).f1))).setCell ⟨gb294,2,none⟩ (.int .i64 ((rd_T88 l0_1 x10_1).f2)))).cell? _=some _ from hx295_1));(try have hy295_2:=fun (n_:Nat)=>(show (((((w17.drewN n_).setCell ⟨gb294,0,none⟩ (.string ((rd_T88 l0_1 x10_1).f0))).setCell ⟨gb294,1,none⟩ (.int .i64 ((rd_T88 l0_1 x10_1).f1))).setCell ⟨gb294,2,none⟩ (.int .i64 ((rd_T88 l0_1 x10_1).f2)))).cell? _=some _ from hx295_2));clear hn295_0 hn295_1 hn295_2;replace p295:=eq_true p295;replace q295:=eq_true q295));try go_wp2_with (first|((with_reducible refine gate_dst (N:=6) rfl ?_);refine box_event ?hg (N:=6) ?hd (cs:=#[.string (⟨#[]⟩:ByteArray),.int .i64 0,.int .i64 0]) (t:=88) ?hr ?_;(case hd=>rfl);(case hg=>rfl);(case hr=>first|(go_simp;done)|(go_simp;rfl));intro gb294 hg w17 hbox hb;have n0_:=Aside0.mk (blk_below (g:=gb292) (o:=.cells #[.slice A0_0 l0_0.length c0_0,.slice (some ad293) l0_1.length c0_1] 33 (0,0)) qz24 hb);have n1_:=Aside0.mk (below_step qz11 hb);have n2_:=Aside0.mk (hbox);have n3_:=Aside0.mk ((by rw [hg];exact (below_size qz11):w.heap.size≤gb294));have n4_:=Aside0.mk ((by rw [hg];exact (below_size qz11):w.heap.size≤gb294));have n5_:=Aside0.mk ((by rw [hg];exact Nat.ne_of_lt (blk_lt (g:=gb292) (o:=.cells #[.slice A0_0 l0_0.length c0_0,.slice (some ad293) l0_1.length c0_1] 33 (0,0)) qz24):gb292≠gb294));have n6_:=Aside0.mk ((by rw [hg];exact Nat.ne_of_gt (blk_lt (g:=gb292) (o:=.cells #[.slice A0_0 l0_0.length c0_0,.slice (some ad293) l0_1.length c0_1] 33 (0,0)) qz24):gb294≠gb292));clear BK292 HB;have BK292:=n0_;have HB:=n1_;have BK294:=n2_;have GW294:=n3_;have GE294:=n4_;have NB292_294:=n5_;have NB294_292:=n6_;clear n0_ n1_ n2_ n3_ n4_ n5_ n6_ hb hbox hg;have hnb18:=NB294_292.out;have hnc18:=NB292_294.out;have hcz19_0:w17.cell? ⟨gb294,0,none⟩=some (.string (⟨#[]⟩:ByteArray)):=(blk_cell BK294.out 0).trans rfl;have hcz19_1:w17.cell? ⟨gb294,1,none⟩=some (.int .i64 0):=(blk_cell BK294.out 1).trans rfl;have hcz19_2:w17.cell? ⟨gb294,2,none⟩=some (.int .i64 0):=(blk_cell BK294.out 2).trans rfl;have hfz19_0:=blk_frozen BK294.out 0;have hfz19_1:=blk_frozen BK294.out 1;have hfz19_2:=blk_frozen BK294.out 2;have p295:0≤(0:Int):=(by omega);have q295:0<(l1.length:Int):=of_decide_eq_true qz7;obtain ⟨ad295,e295,hx295_0,hx295_1,hx295_2⟩:=at_T47 HR1.out 0 p295 q295;cases e295;have qi295:(0<l1.length)=True:=eq_true (by omega);(try rw [show ((0:Int)).toNat=0 from rfl] at hx295_0);(try rw [show 0 * 3=0 from rfl] at hx295_0);(try rw [Addr.add_zero'] at hx295_0);(try rw [show ((0:Int)).toNat=0 from rfl] at hx295_1);(try rw [show 0 * 3=0 from rfl] at hx295_1);(try rw [Addr.add_zero'] at hx295_1);(try rw [show ((0:Int)).toNat=0 from rfl] at hx295_2);(try rw [show 0 * 3=0 from rfl] at hx295_2);(try rw [Addr.add_zero'] at hx295_2);have hn295_0:ad295.block≠gb294:=Nat.ne_of_lt (Nat.lt_of_lt_of_le (by have:=World.block_lt_of_cell? _ _ hx295_0;first|rwa [add_block] at this|exact this) GW294.out);have hn295_1:ad295.block≠gb294:=Nat.ne_of_lt (Nat.lt_of_lt_of_le (by have:=World.block_lt_of_cell? _ _ hx295_0;first|rwa [add_block] at this|exact this) GW294.out);have hn295_2:ad295.block≠gb294:=Nat.ne_of_lt (Nat.lt_of_lt_of_le (by have:=World.block_lt_of_cell? _ _ hx295_0;first|rwa [add_block] at this|exact this) GW294.out);replace hx295_0:=(HB.out.cell (World.block_lt_of_cell? w _ hx295_0)).trans hx295_0;replace hx295_1:=(HB.out.cell (World.block_lt_of_cell? w _ hx295_1)).trans hx295_1;replace hx295_2:=(HB.out.cell (World.block_lt_of_cell? w _ hx295_2)).trans hx295_2;replace hx295_0:=(cell_far (p:=⟨gb294,0,none⟩) qz22 (.string ((rd_T88 l0_1 x10_1).f0))).trans hx295_0;replace hx295_1:=(cell_far (p:=⟨gb294,0,none⟩) qz22 (.string ((rd_T88 l0_1 x10_1).f0))).trans hx295_1;replace hx295_2:=(cell_far (p:=⟨gb294,0,none⟩) qz22 (.string ((rd_T88 l0_1 x10_1).f0))).trans hx295_2;replace hx295_0:=(cell_far (p:=⟨gb294,1,none⟩) qz21 (.int .i64 ((rd_T88 l0_1 x10_1).f1))).trans hx295_0;replace hx295_1:=(cell_far (p:=⟨gb294,1,none⟩) qz21 (.int .i64 ((rd_T88 l0_1 x10_1).f1))).trans hx295_1;replace hx295_2:=(cell_far (p:=⟨gb294,1,none⟩) qz21 (.int .i64 ((rd_T88 l0_1 x10_1).f1))).trans hx295_2;replace hx295_0:=(cell_far (p:=⟨gb294,2,none⟩) qz20 (.int .i64 ((rd_T88 l0_1 x10_1).f2))).trans hx295_0;replace hx295_1:=(cell_far (p:=⟨gb294,2,none⟩) qz20 (.int .i64 ((rd_T88 l0_1 x10_1).f2))).trans hx295_1;replace hx295_2:=(cell_far (p:=⟨gb294,2,none⟩) qz20 (.int .i64 ((rd_T88 l0_1 x10_1).f2))).trans hx295_2;(try have hy295_0:=fun (n_:Nat)=>(show (((((w17.drewN n_).setCell ⟨gb294,0,none⟩ (.string ((rd_T88 l0_1 x10_1).f0))).setCell ⟨gb294,1,none⟩ (.int .i64 ((rd_T88 l0_1 x10_1).f1))).setCell ⟨gb294,2,none⟩ (.int .i64 ((rd_T88 l0_1 x10_1).f2)))).cell? _=some _ from hx295_0));(try have hy295_1:=fun (n_:Nat)=>(show (((((w17.drewN n_).setCell ⟨gb294,0,none⟩ (.string ((rd_T88 l0_1 x10_1).f0))).setCell ⟨gb294,1,none⟩ (.int .i64 ((rd_T88 l0_1 x10_1).f1))).setCell ⟨gb294,2,none⟩ (.int .i64 ((rd_T88 l0_1 x10_1).f2)))).cell? _=some _ from hx295_1));(try have hy295_2:=fun (n_:Nat)=>(show (((((w17.drewN n_).setCell ⟨gb294,0,none⟩ (.string ((rd_T88 l0_1 x10_1).f0))).setCell ⟨gb294,1,none⟩ (.int .i64 ((rd_T88 l0_1 x10_1).f1))).setCell ⟨gb294,2,none⟩ (.int .i64 ((rd_T88 l0_1 x10_1).f2)))).cell? _=some _ from hx295_2));clear hn295_0 hn295_1 hn295_2;replace p295:=eq_true p295;replace q295:=eq_true q295)))
        go_roundg k1
        case measure=>have:=HK1.out;omega
        case rel=>exact ⟨(wrap64 (x10_1+1)),qz12,H',⟨by have:=HK1.out;omega⟩,⟨qz96⟩,⟨qz110⟩⟩
      ·rw [if_neg c8] at H
       exact absurd H (by simp)
     ·rw [if_neg c7] at H
      exact absurd H (by simp)
    ·rw [if_neg c6] at H
     exact absurd H (by simp)
   ·rw [if_neg c5] at H
    have c5b0:decide (x10_1<(l0_1.length:Int))=false:=decide_eq_false c5
    clear c5
    obtain rfl:=Option.some.inj H
    go_wp2
    repeat (go_quiet (fail);try go_wp2)
    go_ret
    exact ⟨qz3,qz11⟩

end Go.Proofs.YtepkgjcobocbpaaDoor.P
