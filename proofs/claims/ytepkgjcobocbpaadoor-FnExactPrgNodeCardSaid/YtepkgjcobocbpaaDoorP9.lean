/- Contracts of functions of the program: each as a Lean function, and that its call does what that says; printed by cprint.py (this session) over print.py of the kit. Conditions: the hypotheses of each theorem. -/
import Derived.Test.YtepkgjcobocbpaaDoorVZ
import Derived.Test.YtepkgjcobocbpaaDoorP0
import Derived.Test.YtepkgjcobocbpaaDoorP8
namespace Go.Proofs.YtepkgjcobocbpaaDoor.P
open Go.RowKit Go.Proofs.YtepkgjcobocbpaaDoorW.PrintWords Go.Proofs.YtepkgjcobocbpaaDoorW.PrintLast Go.Proofs.YtepkgjcobocbpaaDoorW.PrintMore
attribute [local go_sem] max2_int min2_int max_two min_two max_three min_three max_four min_four   -- for this text's walks alone
set_option linter.unusedVariables false
set_option linter.unusedSimpArgs false

/-! ### impl_PrgOk_1: function 59 -/
def impl_PrgOk_1.f (k:Nat) (l0_0:List (S47)) (l0_1:List (S42)):Option (Bool):=(impl_clauseOk.f k l0_0 l0_1).bind fun t275=>(some (!t275))
set_option maxHeartbeats 8000000 in
set_option maxRecDepth 100000 in
theorem impl_PrgOk_1.calls (k:Nat) (A0_0:Option Addr) (c0_0:Nat) (l0_0:List (S47)) (A0_1:Option Addr) (c0_1:Nat) (l0_1:List (S42)) (r:Bool) (w:World) (hr0_0:Kd.C k47 w A0_0 l0_0.length l0_0) (hc0_0:l0_0.length≤c0_0) (hr0_1:Kd.C k42 w A0_1 l0_1.length l0_1) (hc0_1:l0_1.length≤c0_1) (h:impl_PrgOk_1.f k l0_0 l0_1=some r) :
  Calls Tryd.prog 59 #[.agg #[.slice A0_0 l0_0.length c0_0,.slice A0_1 l0_1.length c0_1]] w fun e w'=>e = .returned (.bool r)∧Below w.heap.size w w':=by
 have hu86:=Tryd.underlying86
 have HR0_0:=Aside0.mk hr0_0
 have HC0_0:=Aside0.mk hc0_0
 clear hr0_0 hc0_0
 have HR0_1:=Aside0.mk hr0_1
 have HC0_1:=Aside0.mk hc0_1
 clear hr0_1 hc0_1
 have HB:=Aside0.mk (Below.refl w.heap.size w)
 have H:((impl_clauseOk.f k l0_0 l0_1).bind fun t275=>(some (!t275)))=some r:=h
 clear h
 replace H:=Option.bind_eq_some_iff.mp H
 obtain ⟨t275,A20,H⟩:=H
 try dsimp only at H
 have A2:=Aside0.mk A20
 clear A20
 obtain rfl:=Option.some.inj H
 go_enter Tryd.func59,Tryd.ntmps59
 go_wp2_with (first|((with_reducible refine gate_dst (N:=1) rfl ?_);refine box_event ?hg (N:=1) ?hd (cs:=#[.slice A0_0 l0_0.length c0_0,.slice A0_1 l0_1.length c0_1]) (t:=86) ?hr ?_;(case hd=>rfl);(case hg=>rfl);(case hr=>first|(go_simp;done)|(go_simp;rfl));intro gb274 hg w3 hbox hb;have n0_:=Aside0.mk (below_step qz1 hb);have n1_:=Aside0.mk (hbox);have n2_:=Aside0.mk ((by rw [hg];exact (below_size qz1):w.heap.size≤gb274));have n3_:=Aside0.mk ((by rw [hg];exact (below_size qz1):w.heap.size≤gb274));clear HB;have HB:=n0_;have BK274:=n1_;have GW274:=n2_;have GE274:=n3_;clear n0_ n1_ n2_ n3_ hb hbox hg;have hcz4_0:w3.cell? ⟨gb274,0,none⟩=some (.slice A0_0 l0_0.length c0_0):=(blk_cell BK274.out 0).trans rfl;have hcz4_1:w3.cell? ⟨gb274,1,none⟩=some (.slice A0_1 l0_1.length c0_1):=(blk_cell BK274.out 1).trans rfl;have hfz4_0:=blk_frozen BK274.out 0;have hfz4_1:=blk_frozen BK274.out 1)|((with_reducible refine gate_callee (f:=60) rfl ?_);refine goesL_ (some 4) rfl rfl Tryd.func60 (by kernel_rfl) rfl #[.agg #[.slice A0_0 l0_0.length c0_0,.slice A0_1 l0_1.length c0_1]] rfl qz2 ?_;(with_reducible refine (impl_clauseOk.calls k _ _ l0_0 _ _ l0_1 t275 _ ?side1 ?side2 ?side3 ?side4 A2.out).mono ?_);(case side1=>exact qz8);(case side2=>exact HC0_0.out);(case side3=>exact qz5);(case side4=>exact HC0_1.out);rintro e w5 ⟨rfl,hb⟩;refine ⟨_,rfl,?_⟩;have n0_:=Aside0.mk (blk_below (g:=gb274) (o:=.cells #[.slice A0_0 l0_0.length c0_0,.slice A0_1 l0_1.length c0_1] 86 (0,0)) (by (with_reducible repeat (first|refine blk_drewN ?_ _|refine blk_drew ?_|refine blk_alloc ?_ _));exact BK274.out) hb);have n1_:=Aside0.mk (below_step qz172 hb);clear BK274 HB;have BK274:=n0_;have HB:=n1_;clear n0_ n1_;(try clear hb);(try clear hb2);(try clear hk);(try clear hi)))
 go_ret
 exact ⟨qz3,qz172⟩

/-! ### slices_IndexFunc_PrgClause: function 81 -/
def slices_IndexFunc_PrgClause.l0:Nat→List (S86)→Int→Int→Option (Int)
 | 0,_,_,_=>none
 | k+1,x0,x7,x8=>if x8<x7 then (if 0≤x8 then (if x8<(x0.length:Int) then ((impl_PrgOk_1.f k ((rd_T86 x0 x8).f0) ((rd_T86 x0 x8).f1)).bind fun t277=>(if t277=true then (some x8) else (slices_IndexFunc_PrgClause.l0 k x0 x7 (wrap64 (x8+1))))) else (none)) else (none)) else (some (-1))
def slices_IndexFunc_PrgClause.f (k:Nat) (l0:List (S86)):Option (Int):=slices_IndexFunc_PrgClause.l0 k l0 (l0.length:Int) 0
set_option maxHeartbeats 8000000 in
set_option maxRecDepth 100000 in
theorem slices_IndexFunc_PrgClause.calls (k:Nat) (A0:Option Addr) (c0:Nat) (l0:List (S86)) (r:Int) (w:World) (hr0:Kd.C k86 w A0 l0.length l0) (hc0:l0.length≤c0) (h:slices_IndexFunc_PrgClause.f k l0=some r) :
  Calls Tryd.prog 81 #[.slice A0 l0.length c0,.func (.func 59) #[] #[]] w fun e w'=>e = .returned (.int .i64 r)∧Below w.heap.size w w':=by
 have hu86:=Tryd.underlying86
 have HR0:=Aside0.mk hr0
 have HC0:=Aside0.mk hc0
 clear hr0 hc0
 have HB:=Aside0.mk (Below.refl w.heap.size w)
 have H:(slices_IndexFunc_PrgClause.l0 k l0 (l0.length:Int) 0)=some r:=h
 clear h
 have H':=Aside0.mk H
 clear H
 go_enter Tryd.func81,Tryd.ntmps81
 go_wp2
 go_loopg [8] k (fun kq v8 w'=>∃ (x8_1:Int),v8 = .int .i64 x8_1∧Aside0 (slices_IndexFunc_PrgClause.l0 kq l0 (l0.length:Int) x8_1=some r)∧Aside0 (kq≤k)∧Aside0 (Below w.heap.size w w'))
 case atStart=>exact ⟨(0),qz12,H',⟨Nat.le_refl _⟩,⟨qz4⟩⟩
 case round=>
  clear H'
  obtain ⟨x8_1,rfl,HA,HK1,HB⟩:=hrel
  cases gk with
  | zero=>exact absurd HA.out (by simp [slices_IndexFunc_PrgClause.l0])
  | succ k1=>
   have H:=HA.out
   clear HA
   simp only [slices_IndexFunc_PrgClause.l0] at H
   by_cases c2:x8_1<(l0.length:Int)
   ·rw [if_pos c2] at H
    have c2b0:decide (x8_1<(l0.length:Int))=true:=decide_eq_true c2
    clear c2
    by_cases c3:0≤x8_1
    ·rw [if_pos c3] at H
     have c3b0:decide (0≤x8_1)=true:=decide_eq_true c3
     clear c3
     by_cases c4:x8_1<(l0.length:Int)
     ·rw [if_pos c4] at H
      have c4b0:decide (x8_1<(l0.length:Int))=true:=decide_eq_true c4
      clear c4
      replace H:=Option.bind_eq_some_iff.mp H
      obtain ⟨t277,A50,H⟩:=H
      try dsimp only at H
      have A5:=Aside0.mk A50
      clear A50
      by_cases c6:t277=true
      ·subst c6
       have H1:(some x8_1)=some r:=qz51
       clear H
       have H:=H1
       clear H1
       obtain rfl:=Option.some.inj H
       have p276:0≤(x8_1:Int):=of_decide_eq_true qz7
       have q276:x8_1<(l0.length:Int):=of_decide_eq_true qz7
       obtain ⟨ad276,A276_0,c276_0,A276_1,c276_1,e276,hx276_0,hx276_1,hl276_0,hi276_0,hl276_1,hi276_1⟩:=at_T86 HR0.out x8_1 p276 q276
       cases e276
       replace hx276_0:=(HB.out.cell (World.block_lt_of_cell? w _ hx276_0)).trans hx276_0
       replace hx276_1:=(HB.out.cell (World.block_lt_of_cell? w _ hx276_1)).trans hx276_1
       have HR276_0:=Aside0.mk hi276_0
       have HC276_0:=Aside0.mk hl276_0
       clear hi276_0 hl276_0
       have HR276_1:=Aside0.mk hi276_1
       have HC276_1:=Aside0.mk hl276_1
       clear hi276_1 hl276_1
       replace p276:=eq_true p276
       replace q276:=eq_true q276
       go_wp2_with (first|((first|go_at_call 59|go_at_fn 59);(with_reducible refine (impl_PrgOk_1.calls k1 _ _ ((rd_T86 l0 x8_1).f0) _ _ ((rd_T86 l0 x8_1).f1) true _ ?side1 ?side2 ?side3 ?side4 A5.out).mono ?_);(case side1=>exact qz158);(case side2=>exact HC276_0.out);(case side3=>exact qz157);(case side4=>exact HC276_1.out);rintro e w7 ⟨rfl,hb⟩;have n0_:=Aside0.mk (below_step qz1 hb);clear HB;have HB:=n0_;clear n0_;(try clear hb);(try clear hb2);(try clear hk);(try clear hi)))
       go_ret
       exact ⟨qz3,qz4⟩
      ·replace c6:=Bool.eq_false_iff.mpr c6
       subst c6
       have H1:(slices_IndexFunc_PrgClause.l0 k1 l0 (l0.length:Int) (wrap64 (x8_1+1)))=some r:=qz23
       clear H
       have H:=H1
       clear H1
       have H':=Aside0.mk H
       clear H
       have p276:0≤(x8_1:Int):=of_decide_eq_true qz7
       have q276:x8_1<(l0.length:Int):=of_decide_eq_true qz7
       obtain ⟨ad276,A276_0,c276_0,A276_1,c276_1,e276,hx276_0,hx276_1,hl276_0,hi276_0,hl276_1,hi276_1⟩:=at_T86 HR0.out x8_1 p276 q276
       cases e276
       replace hx276_0:=(HB.out.cell (World.block_lt_of_cell? w _ hx276_0)).trans hx276_0
       replace hx276_1:=(HB.out.cell (World.block_lt_of_cell? w _ hx276_1)).trans hx276_1
       have HR276_0:=Aside0.mk hi276_0
       have HC276_0:=Aside0.mk hl276_0
       clear hi276_0 hl276_0
       have HR276_1:=Aside0.mk hi276_1
       have HC276_1:=Aside0.mk hl276_1
       clear hi276_1 hl276_1
       replace p276:=eq_true p276
       replace q276:=eq_true q276
       go_wp2_with (first|((first|go_at_call 59|go_at_fn 59);(with_reducible refine (impl_PrgOk_1.calls k1 _ _ ((rd_T86 l0 x8_1).f0) _ _ ((rd_T86 l0 x8_1).f1) false _ ?side1 ?side2 ?side3 ?side4 A5.out).mono ?_);(case side1=>exact qz158);(case side2=>exact HC276_0.out);(case side3=>exact qz157);(case side4=>exact HC276_1.out);rintro e w8 ⟨rfl,hb⟩;have n0_:=Aside0.mk (below_step qz1 hb);clear HB;have HB:=n0_;clear n0_;(try clear hb);(try clear hb2);(try clear hk);(try clear hi)))
       go_roundg k1
       case measure=>have:=HK1.out;omega
       case rel=>exact ⟨(wrap64 (x8_1+1)),qz12,H',⟨by have:=HK1.out;omega⟩,⟨qz4⟩⟩
     ·rw [if_neg c4] at H
      exact absurd H (by simp)
    ·rw [if_neg c3] at H
     exact absurd H (by simp)
   ·rw [if_neg c2] at H
    have c2b0:decide (x8_1<(l0.length:Int))=false:=decide_eq_false c2
    clear c2
    obtain rfl:=Option.some.inj H
    go_wp2
    go_ret
    exact ⟨qz3,qz4⟩

/-! ### slices_ContainsFunc_PrgClause: function 61 -/
def slices_ContainsFunc_PrgClause.f (k:Nat) (l0:List (S86)):Option (Bool):=(slices_IndexFunc_PrgClause.f k l0).bind fun t278=>(some (decide (t278≥0)))
set_option maxHeartbeats 8000000 in
set_option maxRecDepth 100000 in
theorem slices_ContainsFunc_PrgClause.calls (k:Nat) (A0:Option Addr) (c0:Nat) (l0:List (S86)) (r:Bool) (w:World) (hr0:Kd.C k86 w A0 l0.length l0) (hc0:l0.length≤c0) (h:slices_ContainsFunc_PrgClause.f k l0=some r) :
  Calls Tryd.prog 61 #[.slice A0 l0.length c0,.func (.func 59) #[] #[]] w fun e w'=>e = .returned (.bool r)∧Below w.heap.size w w':=by
 have HR0:=Aside0.mk hr0
 have HC0:=Aside0.mk hc0
 clear hr0 hc0
 have HB:=Aside0.mk (Below.refl w.heap.size w)
 have H:((slices_IndexFunc_PrgClause.f k l0).bind fun t278=>(some (decide (t278≥0))))=some r:=h
 clear h
 replace H:=Option.bind_eq_some_iff.mp H
 obtain ⟨t278,A20,H⟩:=H
 try dsimp only at H
 have A2:=Aside0.mk A20
 clear A20
 obtain rfl:=Option.some.inj H
 go_enter Tryd.func61,Tryd.ntmps61
 go_wp2_with (first|((with_reducible refine gate_callee (f:=81) rfl ?_);refine goesL_ (some 7) rfl rfl Tryd.func81 (by kernel_rfl) rfl #[.slice A0 l0.length c0,.func (.func 59) #[] #[]] rfl qz2 ?_;(with_reducible refine (slices_IndexFunc_PrgClause.calls k _ _ l0 t278 _ ?side1 ?side2 A2.out).mono ?_);(case side1=>exact qz89);(case side2=>exact HC0.out);rintro e w3 ⟨rfl,hb⟩;refine ⟨_,rfl,?_⟩;have n0_:=Aside0.mk (below_step qz1 hb);clear HB;have HB:=n0_;clear n0_;(try clear hb);(try clear hb2);(try clear hk);(try clear hi)))
 go_ret
 exact ⟨qz3,qz4⟩

end Go.Proofs.YtepkgjcobocbpaaDoor.P
