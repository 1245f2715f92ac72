/- Contracts of functions of the program: each as a Lean function, and that its call does what that says; printed by cprint.py (this session) over print.py of the kit. Conditions: the hypotheses of each theorem. -/
import Derived.Test.YtepkgjcobocbpaaDoorVZ
import Derived.Test.YtepkgjcobocbpaaDoorP0
import Derived.Test.YtepkgjcobocbpaaDoorP3
import Derived.Test.YtepkgjcobocbpaaDoorP4
namespace Go.Proofs.YtepkgjcobocbpaaDoor.P
open Go.RowKit Go.Proofs.YtepkgjcobocbpaaDoorW.PrintWords Go.Proofs.YtepkgjcobocbpaaDoorW.PrintLast Go.Proofs.YtepkgjcobocbpaaDoorW.PrintMore
attribute [local go_sem] max2_int min2_int max_two min_two max_three min_three max_four min_four   -- for this text's walks alone
set_option linter.unusedVariables false
set_option linter.unusedSimpArgs false

/-! ### spec_PrgOk: function 29 -/
mutual
def spec_PrgOk.j0:Nat→Bool→List (S86)→List (S88)→Option (Bool)
 | 0,_,_,_=>none
 | k+1,x15,x153000,x153001=>if x15=true then (some false) else (spec_PrgOk.l0 k 0 x153000 x153001)
def spec_PrgOk.l0:Nat→Int→List (S86)→List (S88)→Option (Bool)
 | 0,_,_,_=>none
 | k+1,x3,x153000,x153001=>if x3<(x153000.length:Int) then (if 0≤x3 then ((spec_l3Clause.f k ((rd_T86 x153000 x3).f0) ((rd_T86 x153000 x3).f1)).bind fun t154=>(if t154=true then (spec_PrgOk.l0 k (wrap64 (x3+1)) x153000 x153001) else (some false))) else (none)) else (spec_PrgOk.l1 k 0 x153000 x153001)
def spec_PrgOk.l1:Nat→Int→List (S86)→List (S88)→Option (Bool)
 | 0,_,_,_=>none
 | k+1,x4,x153000,x153001=>if x4<(x153001.length:Int) then (if 0≤x4 then ((spec_l3Place.f k ((rd_T88 x153001 x4).f0) ((rd_T88 x153001 x4).f1) ((rd_T88 x153001 x4).f2)).bind fun t156=>(if t156=true then (spec_PrgOk.l2 k x4 0 x153000 x153001) else (some false))) else (none)) else (some true)
def spec_PrgOk.l2:Nat→Int→Int→List (S86)→List (S88)→Option (Bool)
 | 0,_,_,_,_=>none
 | k+1,x4,x5,x153000,x153001=>if x5<x4 then (if 0≤x5 then (if x5<(x153001.length:Int) then (if 0≤x4 then (if x4<(x153001.length:Int) then (if ((rd_T88 x153001 x5).f0).toList=((rd_T88 x153001 x4).f0).toList then (if ((rd_T88 x153001 x5).f1)=((rd_T88 x153001 x4).f1) then (some false) else (spec_PrgOk.l2 k x4 (wrap64 (x5+1)) x153000 x153001)) else (spec_PrgOk.l2 k x4 (wrap64 (x5+1)) x153000 x153001)) else (none)) else (none)) else (none)) else (none)) else (spec_PrgOk.l1 k (wrap64 (x4+1)) x153000 x153001)
end
def spec_PrgOk.f (k:Nat) (l0_0:List (S86)) (l0_1:List (S88)):Option (Bool):=if (l0_0.length:Int) > 12 then (spec_PrgOk.j0 k true l0_0 l0_1) else (spec_PrgOk.j0 k (decide ((l0_1.length:Int) > 6)) l0_0 l0_1)
set_option maxHeartbeats 8000000 in
set_option maxRecDepth 100000 in
theorem spec_PrgOk.calls (k:Nat) (A0_0:Option Addr) (c0_0:Nat) (l0_0:List (S86)) (A0_1:Option Addr) (c0_1:Nat) (l0_1:List (S88)) (r:Bool) (w:World) (hr0_0:Kd.C k86 w A0_0 l0_0.length l0_0) (hc0_0:l0_0.length≤c0_0) (hr0_1:Kd.C k88 w A0_1 l0_1.length l0_1) (hc0_1:l0_1.length≤c0_1) (h:spec_PrgOk.f k l0_0 l0_1=some r) :
  Calls Tryd.prog 29 #[.agg #[.slice A0_0 l0_0.length c0_0,.slice A0_1 l0_1.length c0_1]] w fun e w'=>e = .returned (.bool r)∧Below w.heap.size w w':=by
 have hu33:=Tryd.underlying33
 have hu86:=Tryd.underlying86
 have hu88:=Tryd.underlying88
 have HR0_0:=Aside0.mk hr0_0
 have HC0_0:=Aside0.mk hc0_0
 clear hr0_0 hc0_0
 have HR0_1:=Aside0.mk hr0_1
 have HC0_1:=Aside0.mk hc0_1
 clear hr0_1 hc0_1
 have HB:=Aside0.mk (Below.refl w.heap.size w)
 have H:(if (l0_0.length:Int) > 12 then (spec_PrgOk.j0 k true l0_0 l0_1) else (spec_PrgOk.j0 k (decide ((l0_1.length:Int) > 6)) l0_0 l0_1))=some r:=h
 clear h
 have HC2:=Aside0.mk H
 clear H
 go_enter Tryd.func29,Tryd.ntmps29
 go_upto_region 1 with (first|((with_reducible refine gate_dst (N:=1) rfl ?_);(try (refine gate_guard (by rfl) ?_;dsimp only));refine box_event ?hg (N:=1) ?hd (cs:=#[.slice A0_0 l0_0.length c0_0,.slice A0_1 l0_1.length c0_1]) (t:=33) ?hr ?_;(case hd=>rfl);(case hg=>rfl);(case hr=>first|(go_simp;done)|(go_simp;rfl));intro gb152 hg w3 hbox hb;have n0_:=Aside0.mk (below_step qz1 hb);have n1_:=Aside0.mk (hbox);have n2_:=Aside0.mk ((by rw [hg];exact (below_size qz1):w.heap.size≤gb152));have n3_:=Aside0.mk ((by rw [hg];exact (below_size qz1):w.heap.size≤gb152));clear HB;have HB:=n0_;have BK152:=n1_;have GW152:=n2_;have GE152:=n3_;clear n0_ n1_ n2_ n3_ hb hbox hg))
 repeat (go_quiet (first|((with_reducible refine gate_dst (N:=1) rfl ?_);(try (refine gate_guard (by rfl) ?_;dsimp only));refine box_event ?hg (N:=1) ?hd (cs:=#[.slice A0_0 l0_0.length c0_0,.slice A0_1 l0_1.length c0_1]) (t:=33) ?hr ?_;(case hd=>rfl);(case hg=>rfl);(case hr=>first|(go_simp;done)|(go_simp;rfl));intro gb152 hg w3 hbox hb;have n0_:=Aside0.mk (below_step qz1 hb);have n1_:=Aside0.mk (hbox);have n2_:=Aside0.mk ((by rw [hg];exact (below_size qz1):w.heap.size≤gb152));have n3_:=Aside0.mk ((by rw [hg];exact (below_size qz1):w.heap.size≤gb152));clear HB;have HB:=n0_;have BK152:=n1_;have GW152:=n2_;have GE152:=n3_;clear n0_ n1_ n2_ n3_ hb hbox hg));go_upto_region 1 with (first|((with_reducible refine gate_dst (N:=1) rfl ?_);(try (refine gate_guard (by rfl) ?_;dsimp only));refine box_event ?hg (N:=1) ?hd (cs:=#[.slice A0_0 l0_0.length c0_0,.slice A0_1 l0_1.length c0_1]) (t:=33) ?hr ?_;(case hd=>rfl);(case hg=>rfl);(case hr=>first|(go_simp;done)|(go_simp;rfl));intro gb152 hg w3 hbox hb;have n0_:=Aside0.mk (below_step qz1 hb);have n1_:=Aside0.mk (hbox);have n2_:=Aside0.mk ((by rw [hg];exact (below_size qz1):w.heap.size≤gb152));have n3_:=Aside0.mk ((by rw [hg];exact (below_size qz1):w.heap.size≤gb152));clear HB;have HB:=n0_;have BK152:=n1_;have GW152:=n2_;have GE152:=n3_;clear n0_ n1_ n2_ n3_ hb hbox hg)))
 (try simp only [Act.put,List.setIfInBounds_toArray,List.set_cons_zero,List.set_cons_succ])
 go_cut [15] (fun v15 wc=>∃ (kq:Nat) (x15_1:Bool),v15 = .bool x15_1∧Aside0 (spec_PrgOk.j0 kq x15_1 l0_0 l0_1=some r)∧Aside0 (kq≤k)∧Aside0 (wc.heap[gb152]?=some (.cells #[(.slice A0_0 l0_0.length c0_0),(.slice A0_1 l0_1.length c0_1)] 33 (0,0)))∧Aside0 (Below w.heap.size w wc))
 case first=>
  have H:=HC2.out
  clear HC2
  by_cases c4:(l0_0.length:Int) > 12
  ·rw [if_pos c4] at H
   have c4b0:decide (12<(l0_0.length:Int))=true:=decide_eq_true c4
   have c4b1:decide (12<l0_0.length)=true:=decide_eq_true (by omega)
   clear c4
   (first|rw [c4b0]|(simp only [i64_w,i32_w];rw [c4b0])|skip)
   have H':=Aside0.mk H
   clear H
   have hcz5_0:w3.cell? ⟨gb152,0,none⟩=some (.slice A0_0 l0_0.length c0_0):=(blk_cell BK152.out 0).trans rfl
   have hcz5_1:w3.cell? ⟨gb152,1,none⟩=some (.slice A0_1 l0_1.length c0_1):=(blk_cell BK152.out 1).trans rfl
   have hfz5_0:=blk_frozen BK152.out 0
   have hfz5_1:=blk_frozen BK152.out 1
   go_wp2
   repeat (go_quiet (fail);try go_wp2)
   go_meet
   case rel=>exact ⟨_,(true),qz12,H',⟨qz99⟩,⟨qz29⟩,⟨qz14⟩⟩
  ·rw [if_neg c4] at H
   have c4b0:decide (12<(l0_0.length:Int))=false:=decide_eq_false c4
   have c4b1:decide (12<l0_0.length)=false:=decide_eq_false (by omega)
   clear c4
   (first|rw [c4b0]|(simp only [i64_w,i32_w];rw [c4b0])|skip)
   have H':=Aside0.mk H
   clear H
   have hcz6_0:w3.cell? ⟨gb152,0,none⟩=some (.slice A0_0 l0_0.length c0_0):=(blk_cell BK152.out 0).trans rfl
   have hcz6_1:w3.cell? ⟨gb152,1,none⟩=some (.slice A0_1 l0_1.length c0_1):=(blk_cell BK152.out 1).trans rfl
   have hfz6_0:=blk_frozen BK152.out 0
   have hfz6_1:=blk_frozen BK152.out 1
   go_wp2
   repeat (go_quiet (fail);try go_wp2)
   go_meet
   case rel=>exact ⟨_,(decide ((l0_1.length:Int) > 6)),qz12,H',⟨qz99⟩,⟨qz29⟩,⟨qz14⟩⟩
 case rest=>
  clear HC2
  try clear c2
  try clear p2
  try clear c4
  try clear c4b0
  try clear c4b1
  try clear hcz5_0
  try clear hcz5_1
  try clear hcz6_0
  try clear hcz6_1
  try clear hfz5_0
  try clear hfz5_1
  try clear hfz6_0
  try clear hfz6_1
  obtain ⟨kq,x15_1,rfl,HA,HJ1,BK152,HB⟩:=hcut
  cases kq with
  | zero=>exact absurd HA.out (by simp [spec_PrgOk.j0])
  | succ kj1=>
   have H:=HA.out
   clear HA
   simp only [spec_PrgOk.j0] at H
   by_cases c7:x15_1=true
   ·subst c7
    have H1:(some false)=some r:=qz51
    clear H
    have H:=H1
    clear H1
    obtain rfl:=Option.some.inj H
    go_wp2
    repeat (go_quiet (fail);try go_wp2)
    go_ret
    exact ⟨qz3,qz14⟩
   ·replace c7:=Bool.eq_false_iff.mpr c7
    subst c7
    have H1:(spec_PrgOk.l0 kj1 0 l0_0 l0_1)=some r:=qz23
    clear H
    have H:=H1
    clear H1
    have H':=Aside0.mk H
    clear H
    go_wp2
    repeat (go_quiet (fail);try go_wp2)
    go_loopg [3] kj1 (fun kq v3 w'=>∃ (x3_2:Int),v3 = .int .i64 x3_2∧Aside0 (spec_PrgOk.l0 kq x3_2 l0_0 l0_1=some r)∧Aside0 (kq≤kj1)∧Aside0 (w'.heap[gb152]?=some (.cells #[(.slice A0_0 l0_0.length c0_0),(.slice A0_1 l0_1.length c0_1)] 33 (0,0)))∧Aside0 (Below w.heap.size w w'))
    case atStart=>exact ⟨(0),qz12,H',⟨Nat.le_refl _⟩,⟨qz29⟩,⟨qz14⟩⟩
    case round=>
     clear H'
     try clear c2
     try clear p2
     try clear c4
     try clear c4b0
     try clear c4b1
     try clear c7
     try clear hcz5_0
     try clear hcz5_1
     try clear hcz6_0
     try clear hcz6_1
     try clear hfz5_0
     try clear hfz5_1
     try clear hfz6_0
     try clear hfz6_1
     try clear p2
     obtain ⟨x3_2,rfl,HA,HK2,BK152,HB⟩:=hrel
     cases gk with
     | zero=>exact absurd HA.out (by simp [spec_PrgOk.l0])
     | succ k2=>
      have H:=HA.out
      clear HA
      simp only [spec_PrgOk.l0] at H
      by_cases c8:x3_2<(l0_0.length:Int)
      ·rw [if_pos c8] at H
       have c8b0:decide (x3_2<(l0_0.length:Int))=true:=decide_eq_true c8
       clear c8
       by_cases c9:0≤x3_2
       ·rw [if_pos c9] at H
        have c9b0:decide (0≤x3_2)=true:=decide_eq_true c9
        clear c9
        replace H:=Option.bind_eq_some_iff.mp H
        obtain ⟨t154,A100,H⟩:=H
        try dsimp only at H
        have A10:=Aside0.mk A100
        clear A100
        by_cases c11:t154=true
        ·subst c11
         have H1:(spec_PrgOk.l0 k2 (wrap64 (x3_2+1)) l0_0 l0_1)=some r:=qz51
         clear H
         have H:=H1
         clear H1
         have H':=Aside0.mk H
         clear H
         have hcz12_0:wr.cell? ⟨gb152,0,none⟩=some (.slice A0_0 l0_0.length c0_0):=(blk_cell BK152.out 0).trans rfl
         have hcz12_1:wr.cell? ⟨gb152,1,none⟩=some (.slice A0_1 l0_1.length c0_1):=(blk_cell BK152.out 1).trans rfl
         have hfz12_0:=blk_frozen BK152.out 0
         have hfz12_1:=blk_frozen BK152.out 1
         have p153:0≤(x3_2:Int):=of_decide_eq_true qz7
         have q153:x3_2<(l0_0.length:Int):=of_decide_eq_true qz7
         obtain ⟨ad153,A153_0,c153_0,A153_1,c153_1,e153,hx153_0,hx153_1,hl153_0,hi153_0,hl153_1,hi153_1⟩:=at_T86 HR0_0.out x3_2 p153 q153
         cases e153
         replace hx153_0:=(HB.out.cell (World.block_lt_of_cell? w _ hx153_0)).trans hx153_0
         replace hx153_1:=(HB.out.cell (World.block_lt_of_cell? w _ hx153_1)).trans hx153_1
         have HR153_0:=Aside0.mk hi153_0
         have HC153_0:=Aside0.mk hl153_0
         clear hi153_0 hl153_0
         have HR153_1:=Aside0.mk hi153_1
         have HC153_1:=Aside0.mk hl153_1
         clear hi153_1 hl153_1
         replace p153:=eq_true p153
         replace q153:=eq_true q153
         go_wp2_with (first|(go_at_call 51;(with_reducible refine (spec_l3Clause.calls k2 _ _ ((rd_T86 l0_0 x3_2).f0) _ _ ((rd_T86 l0_0 x3_2).f1) true _ ?side1 ?side2 ?side3 ?side4 A10.out).mono ?_);(case side1=>exact qz80);(case side2=>exact HC153_0.out);(case side3=>exact qz79);(case side4=>exact HC153_1.out);rintro e w13 ⟨rfl,hb⟩;have n0_:=Aside0.mk (blk_below (g:=gb152) (o:=.cells #[.slice (some ad153) l0_0.length c0_0,.slice A0_1 l0_1.length c0_1] 33 (0,0)) qz29 hb);have n1_:=Aside0.mk (below_step qz14 hb);clear BK152 HB;have BK152:=n0_;have HB:=n1_;clear n0_ n1_;(try clear hb);(try clear hb2);(try clear hk);(try clear hi)))
         repeat (go_quiet (first|(go_at_call 51;(with_reducible refine (spec_l3Clause.calls k2 _ _ ((rd_T86 l0_0 x3_2).f0) _ _ ((rd_T86 l0_0 x3_2).f1) true _ ?side1 ?side2 ?side3 ?side4 A10.out).mono ?_);(case side1=>exact qz80);(case side2=>exact HC153_0.out);(case side3=>exact qz79);(case side4=>exact HC153_1.out);rintro e w13 ⟨rfl,hb⟩;have n0_:=Aside0.mk (blk_below (g:=gb152) (o:=.cells #[.slice (some ad153) l0_0.length c0_0,.slice A0_1 l0_1.length c0_1] 33 (0,0)) qz29 hb);have n1_:=Aside0.mk (below_step qz14 hb);clear BK152 HB;have BK152:=n0_;have HB:=n1_;clear n0_ n1_;(try clear hb);(try clear hb2);(try clear hk);(try clear hi)));try go_wp2_with (first|(go_at_call 51;(with_reducible refine (spec_l3Clause.calls k2 _ _ ((rd_T86 l0_0 x3_2).f0) _ _ ((rd_T86 l0_0 x3_2).f1) true _ ?side1 ?side2 ?side3 ?side4 A10.out).mono ?_);(case side1=>exact qz80);(case side2=>exact HC153_0.out);(case side3=>exact qz79);(case side4=>exact HC153_1.out);rintro e w13 ⟨rfl,hb⟩;have n0_:=Aside0.mk (blk_below (g:=gb152) (o:=.cells #[.slice (some ad153) l0_0.length c0_0,.slice A0_1 l0_1.length c0_1] 33 (0,0)) qz29 hb);have n1_:=Aside0.mk (below_step qz14 hb);clear BK152 HB;have BK152:=n0_;have HB:=n1_;clear n0_ n1_;(try clear hb);(try clear hb2);(try clear hk);(try clear hi))))
         go_roundg k2
         case measure=>have:=HJ1.out;have:=HK2.out;omega
         case rel=>exact ⟨(wrap64 (x3_2+1)),qz12,H',⟨qz146⟩,⟨qz29⟩,⟨qz14⟩⟩
        ·replace c11:=Bool.eq_false_iff.mpr c11
         subst c11
         have H1:(some false)=some r:=qz23
         clear H
         have H:=H1
         clear H1
         obtain rfl:=Option.some.inj H
         have hcz14_0:wr.cell? ⟨gb152,0,none⟩=some (.slice A0_0 l0_0.length c0_0):=(blk_cell BK152.out 0).trans rfl
         have hcz14_1:wr.cell? ⟨gb152,1,none⟩=some (.slice A0_1 l0_1.length c0_1):=(blk_cell BK152.out 1).trans rfl
         have hfz14_0:=blk_frozen BK152.out 0
         have hfz14_1:=blk_frozen BK152.out 1
         have p153:0≤(x3_2:Int):=of_decide_eq_true qz7
         have q153:x3_2<(l0_0.length:Int):=of_decide_eq_true qz7
         obtain ⟨ad153,A153_0,c153_0,A153_1,c153_1,e153,hx153_0,hx153_1,hl153_0,hi153_0,hl153_1,hi153_1⟩:=at_T86 HR0_0.out x3_2 p153 q153
         cases e153
         replace hx153_0:=(HB.out.cell (World.block_lt_of_cell? w _ hx153_0)).trans hx153_0
         replace hx153_1:=(HB.out.cell (World.block_lt_of_cell? w _ hx153_1)).trans hx153_1
         have HR153_0:=Aside0.mk hi153_0
         have HC153_0:=Aside0.mk hl153_0
         clear hi153_0 hl153_0
         have HR153_1:=Aside0.mk hi153_1
         have HC153_1:=Aside0.mk hl153_1
         clear hi153_1 hl153_1
         replace p153:=eq_true p153
         replace q153:=eq_true q153
         go_wp2_with (first|(go_at_call 51;(with_reducible refine (spec_l3Clause.calls k2 _ _ ((rd_T86 l0_0 x3_2).f0) _ _ ((rd_T86 l0_0 x3_2).f1) false _ ?side1 ?side2 ?side3 ?side4 A10.out).mono ?_);(case side1=>exact qz80);(case side2=>exact HC153_0.out);(case side3=>exact qz79);(case side4=>exact HC153_1.out);rintro e w15 ⟨rfl,hb⟩;have n0_:=Aside0.mk (blk_below (g:=gb152) (o:=.cells #[.slice (some ad153) l0_0.length c0_0,.slice A0_1 l0_1.length c0_1] 33 (0,0)) qz29 hb);have n1_:=Aside0.mk (below_step qz14 hb);clear BK152 HB;have BK152:=n0_;have HB:=n1_;clear n0_ n1_;(try clear hb);(try clear hb2);(try clear hk);(try clear hi)))
         repeat (go_quiet (first|(go_at_call 51;(with_reducible refine (spec_l3Clause.calls k2 _ _ ((rd_T86 l0_0 x3_2).f0) _ _ ((rd_T86 l0_0 x3_2).f1) false _ ?side1 ?side2 ?side3 ?side4 A10.out).mono ?_);(case side1=>exact qz80);(case side2=>exact HC153_0.out);(case side3=>exact qz79);(case side4=>exact HC153_1.out);rintro e w15 ⟨rfl,hb⟩;have n0_:=Aside0.mk (blk_below (g:=gb152) (o:=.cells #[.slice (some ad153) l0_0.length c0_0,.slice A0_1 l0_1.length c0_1] 33 (0,0)) qz29 hb);have n1_:=Aside0.mk (below_step qz14 hb);clear BK152 HB;have BK152:=n0_;have HB:=n1_;clear n0_ n1_;(try clear hb);(try clear hb2);(try clear hk);(try clear hi)));try go_wp2_with (first|(go_at_call 51;(with_reducible refine (spec_l3Clause.calls k2 _ _ ((rd_T86 l0_0 x3_2).f0) _ _ ((rd_T86 l0_0 x3_2).f1) false _ ?side1 ?side2 ?side3 ?side4 A10.out).mono ?_);(case side1=>exact qz80);(case side2=>exact HC153_0.out);(case side3=>exact qz79);(case side4=>exact HC153_1.out);rintro e w15 ⟨rfl,hb⟩;have n0_:=Aside0.mk (blk_below (g:=gb152) (o:=.cells #[.slice (some ad153) l0_0.length c0_0,.slice A0_1 l0_1.length c0_1] 33 (0,0)) qz29 hb);have n1_:=Aside0.mk (below_step qz14 hb);clear BK152 HB;have BK152:=n0_;have HB:=n1_;clear n0_ n1_;(try clear hb);(try clear hb2);(try clear hk);(try clear hi))))
         go_ret
         exact ⟨qz3,qz14⟩
       ·rw [if_neg c9] at H
        exact absurd H (by simp)
      ·rw [if_neg c8] at H
       have c8b0:decide (x3_2<(l0_0.length:Int))=false:=decide_eq_false c8
       clear c8
       have H':=Aside0.mk H
       clear H
       have hcz16_0:wr.cell? ⟨gb152,0,none⟩=some (.slice A0_0 l0_0.length c0_0):=(blk_cell BK152.out 0).trans rfl
       have hcz16_1:wr.cell? ⟨gb152,1,none⟩=some (.slice A0_1 l0_1.length c0_1):=(blk_cell BK152.out 1).trans rfl
       have hfz16_0:=blk_frozen BK152.out 0
       have hfz16_1:=blk_frozen BK152.out 1
       go_wp2
       repeat (go_quiet (fail);try go_wp2)
       go_loopg [4] k2 (fun kq v4 w'=>∃ (x4_3:Int),v4 = .int .i64 x4_3∧Aside0 (spec_PrgOk.l1 kq x4_3 l0_0 l0_1=some r)∧Aside0 (kq≤k2)∧Aside0 (w'.heap[gb152]?=some (.cells #[(.slice A0_0 l0_0.length c0_0),(.slice A0_1 l0_1.length c0_1)] 33 (0,0)))∧Aside0 (Below w.heap.size w w'))
       case atStart=>exact ⟨(0),qz12,H',⟨Nat.le_refl _⟩,⟨qz29⟩,⟨qz14⟩⟩
       case round=>
        clear H'
        try clear c1
        try clear p1
        try clear q1
        try clear hx1
        try clear c2
        try clear p2
        try clear c4
        try clear c4b0
        try clear c4b1
        try clear p6
        try clear c7
        try clear c8
        try clear c8b0
        try clear c9
        try clear c9b0
        try clear c11
        try clear c15
        try clear p15
        try clear q15
        try clear hx15
        try clear hcz12_0
        try clear hcz12_1
        try clear hcz14_0
        try clear hcz14_1
        try clear hcz16_0
        try clear hcz16_1
        try clear hcz5_0
        try clear hcz5_1
        try clear hcz6_0
        try clear hcz6_1
        try clear hfz12_0
        try clear hfz12_1
        try clear hfz14_0
        try clear hfz14_1
        try clear hfz16_0
        try clear hfz16_1
        try clear hfz5_0
        try clear hfz5_1
        try clear hfz6_0
        try clear hfz6_1
        try clear hx153_0
        try clear hx153_1
        try clear p153
        try clear p2
        try clear q153
        obtain ⟨x4_3,rfl,HA,HK3,BK152,HB⟩:=hrel
        cases gk with
        | zero=>exact absurd HA.out (by simp [spec_PrgOk.l1])
        | succ k3=>
         have H:=HA.out
         clear HA
         simp only [spec_PrgOk.l1] at H
         by_cases c17:x4_3<(l0_1.length:Int)
         ·rw [if_pos c17] at H
          have c17b0:decide (x4_3<(l0_1.length:Int))=true:=decide_eq_true c17
          clear c17
          by_cases c18:0≤x4_3
          ·rw [if_pos c18] at H
           have c18b0:decide (0≤x4_3)=true:=decide_eq_true c18
           clear c18
           replace H:=Option.bind_eq_some_iff.mp H
           obtain ⟨t156,A190,H⟩:=H
           try dsimp only at H
           have A19:=Aside0.mk A190
           clear A190
           by_cases c20:t156=true
           ·subst c20
            have H1:(spec_PrgOk.l2 k3 x4_3 0 l0_0 l0_1)=some r:=qz51
            clear H
            have H:=H1
            clear H1
            have H':=Aside0.mk H
            clear H
            have hcz21_0:wr.cell? ⟨gb152,0,none⟩=some (.slice A0_0 l0_0.length c0_0):=(blk_cell BK152.out 0).trans rfl
            have hcz21_1:wr.cell? ⟨gb152,1,none⟩=some (.slice A0_1 l0_1.length c0_1):=(blk_cell BK152.out 1).trans rfl
            have hfz21_0:=blk_frozen BK152.out 0
            have hfz21_1:=blk_frozen BK152.out 1
            have p155:0≤(x4_3:Int):=of_decide_eq_true qz7
            have q155:x4_3<(l0_1.length:Int):=of_decide_eq_true qz7
            obtain ⟨ad155,e155,hx155_0,hx155_1,hx155_2⟩:=at_T88 HR0_1.out x4_3 p155 q155
            cases e155
            replace hx155_0:=(HB.out.cell (World.block_lt_of_cell? w _ hx155_0)).trans hx155_0
            replace hx155_1:=(HB.out.cell (World.block_lt_of_cell? w _ hx155_1)).trans hx155_1
            replace hx155_2:=(HB.out.cell (World.block_lt_of_cell? w _ hx155_2)).trans hx155_2
            replace p155:=eq_true p155
            replace q155:=eq_true q155
            go_wp2_with (first|(go_at_call 52;(with_reducible refine (spec_l3Place.calls k3 ((rd_T88 l0_1 x4_3).f0) ((rd_T88 l0_1 x4_3).f1) ((rd_T88 l0_1 x4_3).f2) true _ A19.out).mono ?_);rintro e w22 ⟨rfl,hb⟩;have n0_:=Aside0.mk (blk_below (g:=gb152) (o:=.cells #[.slice A0_0 l0_0.length c0_0,.slice (some ad155) l0_1.length c0_1] 33 (0,0)) qz29 hb);have n1_:=Aside0.mk (below_step qz14 hb);clear BK152 HB;have BK152:=n0_;have HB:=n1_;clear n0_ n1_;(try clear hb);(try clear hb2);(try clear hk);(try clear hi)))
            repeat (go_quiet (first|(go_at_call 52;(with_reducible refine (spec_l3Place.calls k3 ((rd_T88 l0_1 x4_3).f0) ((rd_T88 l0_1 x4_3).f1) ((rd_T88 l0_1 x4_3).f2) true _ A19.out).mono ?_);rintro e w22 ⟨rfl,hb⟩;have n0_:=Aside0.mk (blk_below (g:=gb152) (o:=.cells #[.slice A0_0 l0_0.length c0_0,.slice (some ad155) l0_1.length c0_1] 33 (0,0)) qz29 hb);have n1_:=Aside0.mk (below_step qz14 hb);clear BK152 HB;have BK152:=n0_;have HB:=n1_;clear n0_ n1_;(try clear hb);(try clear hb2);(try clear hk);(try clear hi)));try go_wp2_with (first|(go_at_call 52;(with_reducible refine (spec_l3Place.calls k3 ((rd_T88 l0_1 x4_3).f0) ((rd_T88 l0_1 x4_3).f1) ((rd_T88 l0_1 x4_3).f2) true _ A19.out).mono ?_);rintro e w22 ⟨rfl,hb⟩;have n0_:=Aside0.mk (blk_below (g:=gb152) (o:=.cells #[.slice A0_0 l0_0.length c0_0,.slice (some ad155) l0_1.length c0_1] 33 (0,0)) qz29 hb);have n1_:=Aside0.mk (below_step qz14 hb);clear BK152 HB;have BK152:=n0_;have HB:=n1_;clear n0_ n1_;(try clear hb);(try clear hb2);(try clear hk);(try clear hi))))
            go_loopg [5] k3 (fun kq v5 w'=>∃ (x5_4:Int),v5 = .int .i64 x5_4∧Aside0 (spec_PrgOk.l2 kq x4_3 x5_4 l0_0 l0_1=some r)∧Aside0 (kq≤k3)∧Aside0 (w'.heap[gb152]?=some (.cells #[(.slice A0_0 l0_0.length c0_0),(.slice (some ad155) l0_1.length c0_1)] 33 (0,0)))∧Aside0 (Below w.heap.size w w'))
            case atStart=>exact ⟨(0),qz12,H',⟨Nat.le_refl _⟩,⟨qz29⟩,⟨qz14⟩⟩
            case round=>
             clear H'
             try clear c1
             try clear p1
             try clear q1
             try clear hx1
             try clear c2
             try clear p2
             try clear c4
             try clear c4b0
             try clear c4b1
             try clear p6
             try clear c7
             try clear c8
             try clear c8b0
             try clear c9
             try clear c9b0
             try clear c11
             try clear c15
             try clear p15
             try clear q15
             try clear hx15
             try clear c17
             try clear c17b0
             try clear c18
             try clear c18b0
             try clear c20
             try clear hcz12_0
             try clear hcz12_1
             try clear hcz14_0
             try clear hcz14_1
             try clear hcz16_0
             try clear hcz16_1
             try clear hcz21_0
             try clear hcz21_1
             try clear hcz5_0
             try clear hcz5_1
             try clear hcz6_0
             try clear hcz6_1
             try clear hfz12_0
             try clear hfz12_1
             try clear hfz14_0
             try clear hfz14_1
             try clear hfz16_0
             try clear hfz16_1
             try clear hfz21_0
             try clear hfz21_1
             try clear hfz5_0
             try clear hfz5_1
             try clear hfz6_0
             try clear hfz6_1
             try clear hx153_0
             try clear hx153_1
             try clear hx155_0
             try clear hx155_1
             try clear hx155_2
             try clear p1
             try clear p15
             try clear p153
             try clear p155
             try clear p2
             try clear p6
             try clear q1
             try clear q15
             try clear q153
             try clear q155
             obtain ⟨x5_4,rfl,HA,HK4,BK152,HB⟩:=hrel
             cases gk with
             | zero=>exact absurd HA.out (by simp [spec_PrgOk.l2])
             | succ k4=>
              have H:=HA.out
              clear HA
              simp only [spec_PrgOk.l2] at H
              by_cases c23:x5_4<x4_3
              ·rw [if_pos c23] at H
               have c23b0:decide (x5_4<x4_3)=true:=decide_eq_true c23
               clear c23
               by_cases c24:0≤x5_4
               ·rw [if_pos c24] at H
                have c24b0:decide (0≤x5_4)=true:=decide_eq_true c24
                clear c24
                by_cases c25:x5_4<(l0_1.length:Int)
                ·rw [if_pos c25] at H
                 have c25b0:decide (x5_4<(l0_1.length:Int))=true:=decide_eq_true c25
                 clear c25
                 by_cases c26:0≤x4_3
                 ·rw [if_pos c26] at H
                  have c26b0:decide (0≤x4_3)=true:=decide_eq_true c26
                  clear c26
                  by_cases c27:x4_3<(l0_1.length:Int)
                  ·rw [if_pos c27] at H
                   have c27b0:decide (x4_3<(l0_1.length:Int))=true:=decide_eq_true c27
                   clear c27
                   by_cases c28:((rd_T88 l0_1 x5_4).f0).toList=((rd_T88 l0_1 x4_3).f0).toList
                   ·rw [if_pos c28] at H
                    have c28b0:(((rd_T88 l0_1 x5_4).f0).toList == ((rd_T88 l0_1 x4_3).f0).toList)=true:=beq_iff_eq.mpr c28
                    have c28b1:(((rd_T88 l0_1 x5_4).f0).toList != ((rd_T88 l0_1 x4_3).f0).toList)=false:=bne_eq_false_iff_eq.mpr c28
                    clear c28
                    by_cases c29:((rd_T88 l0_1 x5_4).f1)=((rd_T88 l0_1 x4_3).f1)
                    ·rw [if_pos c29] at H
                     have c29b0:(((rd_T88 l0_1 x5_4).f1) == ((rd_T88 l0_1 x4_3).f1))=true:=beq_iff_eq.mpr c29
                     have c29b1:(((rd_T88 l0_1 x5_4).f1) != ((rd_T88 l0_1 x4_3).f1))=false:=bne_eq_false_iff_eq.mpr c29
                     clear c29
                     obtain rfl:=Option.some.inj H
                     have hcz30_0:wr.cell? ⟨gb152,0,none⟩=some (.slice A0_0 l0_0.length c0_0):=(blk_cell BK152.out 0).trans rfl
                     have hcz30_1:wr.cell? ⟨gb152,1,none⟩=some (.slice (some ad155) l0_1.length c0_1):=(blk_cell BK152.out 1).trans rfl
                     have hfz30_0:=blk_frozen BK152.out 0
                     have hfz30_1:=blk_frozen BK152.out 1
                     have p157:0≤(x5_4:Int):=of_decide_eq_true qz7
                     have q157:x5_4<(l0_1.length:Int):=of_decide_eq_true qz7
                     obtain ⟨ad157,e157,hx157_0,hx157_1,hx157_2⟩:=at_T88 HR0_1.out x5_4 p157 q157
                     obtain rfl:ad155=ad157:=(by injection e157)
                     replace hx157_0:=(HB.out.cell (World.block_lt_of_cell? w _ hx157_0)).trans hx157_0
                     replace hx157_1:=(HB.out.cell (World.block_lt_of_cell? w _ hx157_1)).trans hx157_1
                     replace hx157_2:=(HB.out.cell (World.block_lt_of_cell? w _ hx157_2)).trans hx157_2
                     replace p157:=eq_true p157
                     replace q157:=eq_true q157
                     have p158:0≤(x4_3:Int):=of_decide_eq_true qz7
                     have q158:x4_3<(l0_1.length:Int):=of_decide_eq_true qz7
                     obtain ⟨ad158,e158,hx158_0,hx158_1,hx158_2⟩:=at_T88 HR0_1.out x4_3 p158 q158
                     obtain rfl:ad155=ad158:=(by injection e158)
                     replace hx158_0:=(HB.out.cell (World.block_lt_of_cell? w _ hx158_0)).trans hx158_0
                     replace hx158_1:=(HB.out.cell (World.block_lt_of_cell? w _ hx158_1)).trans hx158_1
                     replace hx158_2:=(HB.out.cell (World.block_lt_of_cell? w _ hx158_2)).trans hx158_2
                     replace p158:=eq_true p158
                     replace q158:=eq_true q158
                     have p159:0≤(x5_4:Int):=of_decide_eq_true qz7
                     have q159:x5_4<(l0_1.length:Int):=of_decide_eq_true qz7
                     obtain ⟨ad159,e159,hx159_0,hx159_1,hx159_2⟩:=at_T88 HR0_1.out x5_4 p159 q159
                     obtain rfl:ad155=ad159:=(by injection e159)
                     replace hx159_0:=(HB.out.cell (World.block_lt_of_cell? w _ hx159_0)).trans hx159_0
                     replace hx159_1:=(HB.out.cell (World.block_lt_of_cell? w _ hx159_1)).trans hx159_1
                     replace hx159_2:=(HB.out.cell (World.block_lt_of_cell? w _ hx159_2)).trans hx159_2
                     replace p159:=eq_true p159
                     replace q159:=eq_true q159
                     have p160:0≤(x4_3:Int):=of_decide_eq_true qz7
                     have q160:x4_3<(l0_1.length:Int):=of_decide_eq_true qz7
                     obtain ⟨ad160,e160,hx160_0,hx160_1,hx160_2⟩:=at_T88 HR0_1.out x4_3 p160 q160
                     obtain rfl:ad155=ad160:=(by injection e160)
                     replace hx160_0:=(HB.out.cell (World.block_lt_of_cell? w _ hx160_0)).trans hx160_0
                     replace hx160_1:=(HB.out.cell (World.block_lt_of_cell? w _ hx160_1)).trans hx160_1
                     replace hx160_2:=(HB.out.cell (World.block_lt_of_cell? w _ hx160_2)).trans hx160_2
                     replace p160:=eq_true p160
                     replace q160:=eq_true q160
                     go_wp2
                     repeat (go_quiet (fail);try go_wp2)
                     go_ret
                     exact ⟨qz3,qz14⟩
                    ·rw [if_neg c29] at H
                     have c29b0:(((rd_T88 l0_1 x5_4).f1) == ((rd_T88 l0_1 x4_3).f1))=false:=beq_eq_false_iff_ne.mpr c29
                     have c29b1:(((rd_T88 l0_1 x5_4).f1) != ((rd_T88 l0_1 x4_3).f1))=true:=bne_iff_ne.mpr c29
                     have H':=Aside0.mk H
                     clear H
                     have hcz31_0:wr.cell? ⟨gb152,0,none⟩=some (.slice A0_0 l0_0.length c0_0):=(blk_cell BK152.out 0).trans rfl
                     have hcz31_1:wr.cell? ⟨gb152,1,none⟩=some (.slice (some ad155) l0_1.length c0_1):=(blk_cell BK152.out 1).trans rfl
                     have hfz31_0:=blk_frozen BK152.out 0
                     have hfz31_1:=blk_frozen BK152.out 1
                     have p157:0≤(x5_4:Int):=of_decide_eq_true qz7
                     have q157:x5_4<(l0_1.length:Int):=of_decide_eq_true qz7
                     obtain ⟨ad157,e157,hx157_0,hx157_1,hx157_2⟩:=at_T88 HR0_1.out x5_4 p157 q157
                     obtain rfl:ad155=ad157:=(by injection e157)
                     replace hx157_0:=(HB.out.cell (World.block_lt_of_cell? w _ hx157_0)).trans hx157_0
                     replace hx157_1:=(HB.out.cell (World.block_lt_of_cell? w _ hx157_1)).trans hx157_1
                     replace hx157_2:=(HB.out.cell (World.block_lt_of_cell? w _ hx157_2)).trans hx157_2
                     replace p157:=eq_true p157
                     replace q157:=eq_true q157
                     have p158:0≤(x4_3:Int):=of_decide_eq_true qz7
                     have q158:x4_3<(l0_1.length:Int):=of_decide_eq_true qz7
                     obtain ⟨ad158,e158,hx158_0,hx158_1,hx158_2⟩:=at_T88 HR0_1.out x4_3 p158 q158
                     obtain rfl:ad155=ad158:=(by injection e158)
                     replace hx158_0:=(HB.out.cell (World.block_lt_of_cell? w _ hx158_0)).trans hx158_0
                     replace hx158_1:=(HB.out.cell (World.block_lt_of_cell? w _ hx158_1)).trans hx158_1
                     replace hx158_2:=(HB.out.cell (World.block_lt_of_cell? w _ hx158_2)).trans hx158_2
                     replace p158:=eq_true p158
                     replace q158:=eq_true q158
                     have p159:0≤(x5_4:Int):=of_decide_eq_true qz7
                     have q159:x5_4<(l0_1.length:Int):=of_decide_eq_true qz7
                     obtain ⟨ad159,e159,hx159_0,hx159_1,hx159_2⟩:=at_T88 HR0_1.out x5_4 p159 q159
                     obtain rfl:ad155=ad159:=(by injection e159)
                     replace hx159_0:=(HB.out.cell (World.block_lt_of_cell? w _ hx159_0)).trans hx159_0
                     replace hx159_1:=(HB.out.cell (World.block_lt_of_cell? w _ hx159_1)).trans hx159_1
                     replace hx159_2:=(HB.out.cell (World.block_lt_of_cell? w _ hx159_2)).trans hx159_2
                     replace p159:=eq_true p159
                     replace q159:=eq_true q159
                     have p160:0≤(x4_3:Int):=of_decide_eq_true qz7
                     have q160:x4_3<(l0_1.length:Int):=of_decide_eq_true qz7
                     obtain ⟨ad160,e160,hx160_0,hx160_1,hx160_2⟩:=at_T88 HR0_1.out x4_3 p160 q160
                     obtain rfl:ad155=ad160:=(by injection e160)
                     replace hx160_0:=(HB.out.cell (World.block_lt_of_cell? w _ hx160_0)).trans hx160_0
                     replace hx160_1:=(HB.out.cell (World.block_lt_of_cell? w _ hx160_1)).trans hx160_1
                     replace hx160_2:=(HB.out.cell (World.block_lt_of_cell? w _ hx160_2)).trans hx160_2
                     replace p160:=eq_true p160
                     replace q160:=eq_true q160
                     go_wp2
                     repeat (go_quiet (fail);try go_wp2)
                     go_roundg k4
                     case measure=>have:=HJ1.out;have:=HK2.out;have:=HK3.out;have:=HK4.out;omega
                     case rel=>exact ⟨(wrap64 (x5_4+1)),qz12,H',⟨qz177⟩,⟨qz29⟩,⟨qz14⟩⟩
                   ·rw [if_neg c28] at H
                    have c28b0:(((rd_T88 l0_1 x5_4).f0).toList == ((rd_T88 l0_1 x4_3).f0).toList)=false:=beq_eq_false_iff_ne.mpr c28
                    have c28b1:(((rd_T88 l0_1 x5_4).f0).toList != ((rd_T88 l0_1 x4_3).f0).toList)=true:=bne_iff_ne.mpr c28
                    have H':=Aside0.mk H
                    clear H
                    have hcz32_0:wr.cell? ⟨gb152,0,none⟩=some (.slice A0_0 l0_0.length c0_0):=(blk_cell BK152.out 0).trans rfl
                    have hcz32_1:wr.cell? ⟨gb152,1,none⟩=some (.slice (some ad155) l0_1.length c0_1):=(blk_cell BK152.out 1).trans rfl
                    have hfz32_0:=blk_frozen BK152.out 0
                    have hfz32_1:=blk_frozen BK152.out 1
                    have p157:0≤(x5_4:Int):=of_decide_eq_true qz7
                    have q157:x5_4<(l0_1.length:Int):=of_decide_eq_true qz7
                    obtain ⟨ad157,e157,hx157_0,hx157_1,hx157_2⟩:=at_T88 HR0_1.out x5_4 p157 q157
                    obtain rfl:ad155=ad157:=(by injection e157)
                    replace hx157_0:=(HB.out.cell (World.block_lt_of_cell? w _ hx157_0)).trans hx157_0
                    replace hx157_1:=(HB.out.cell (World.block_lt_of_cell? w _ hx157_1)).trans hx157_1
                    replace hx157_2:=(HB.out.cell (World.block_lt_of_cell? w _ hx157_2)).trans hx157_2
                    replace p157:=eq_true p157
                    replace q157:=eq_true q157
                    have p158:0≤(x4_3:Int):=of_decide_eq_true qz7
                    have q158:x4_3<(l0_1.length:Int):=of_decide_eq_true qz7
                    obtain ⟨ad158,e158,hx158_0,hx158_1,hx158_2⟩:=at_T88 HR0_1.out x4_3 p158 q158
                    obtain rfl:ad155=ad158:=(by injection e158)
                    replace hx158_0:=(HB.out.cell (World.block_lt_of_cell? w _ hx158_0)).trans hx158_0
                    replace hx158_1:=(HB.out.cell (World.block_lt_of_cell? w _ hx158_1)).trans hx158_1
                    replace hx158_2:=(HB.out.cell (World.block_lt_of_cell? w _ hx158_2)).trans hx158_2
                    replace p158:=eq_true p158
                    replace q158:=eq_true q158
                    go_wp2
                    repeat (go_quiet (fail);try go_wp2)
                    go_roundg k4
                    case measure=>have:=HJ1.out;have:=HK2.out;have:=HK3.out;have:=HK4.out;omega
                    case rel=>exact ⟨(wrap64 (x5_4+1)),qz12,H',⟨qz177⟩,⟨qz29⟩,⟨qz14⟩⟩
                  ·rw [if_neg c27] at H
                   exact absurd H (by simp)
                 ·rw [if_neg c26] at H
                  exact absurd H (by simp)
                ·rw [if_neg c25] at H
                 exact absurd H (by simp)
               ·rw [if_neg c24] at H
                exact absurd H (by simp)
              ·rw [if_neg c23] at H
               have c23b0:decide (x5_4<x4_3)=false:=decide_eq_false c23
               clear c23
               have H':=Aside0.mk H
               clear H
               go_wp2
               repeat (go_quiet (fail);try go_wp2)
               go_roundg k4
               case measure=>have:=HJ1.out;have:=HK2.out;have:=HK3.out;have:=HK4.out;omega
               case rel=>exact ⟨(wrap64 (x4_3+1)),qz12,H',⟨qz177⟩,⟨qz29⟩,⟨qz14⟩⟩
           ·replace c20:=Bool.eq_false_iff.mpr c20
            subst c20
            have H1:(some false)=some r:=qz23
            clear H
            have H:=H1
            clear H1
            obtain rfl:=Option.some.inj H
            have hcz33_0:wr.cell? ⟨gb152,0,none⟩=some (.slice A0_0 l0_0.length c0_0):=(blk_cell BK152.out 0).trans rfl
            have hcz33_1:wr.cell? ⟨gb152,1,none⟩=some (.slice A0_1 l0_1.length c0_1):=(blk_cell BK152.out 1).trans rfl
            have hfz33_0:=blk_frozen BK152.out 0
            have hfz33_1:=blk_frozen BK152.out 1
            have p155:0≤(x4_3:Int):=of_decide_eq_true qz7
            have q155:x4_3<(l0_1.length:Int):=of_decide_eq_true qz7
            obtain ⟨ad155,e155,hx155_0,hx155_1,hx155_2⟩:=at_T88 HR0_1.out x4_3 p155 q155
            cases e155
            replace hx155_0:=(HB.out.cell (World.block_lt_of_cell? w _ hx155_0)).trans hx155_0
            replace hx155_1:=(HB.out.cell (World.block_lt_of_cell? w _ hx155_1)).trans hx155_1
            replace hx155_2:=(HB.out.cell (World.block_lt_of_cell? w _ hx155_2)).trans hx155_2
            replace p155:=eq_true p155
            replace q155:=eq_true q155
            go_wp2_with (first|(go_at_call 52;(with_reducible refine (spec_l3Place.calls k3 ((rd_T88 l0_1 x4_3).f0) ((rd_T88 l0_1 x4_3).f1) ((rd_T88 l0_1 x4_3).f2) false _ A19.out).mono ?_);rintro e w34 ⟨rfl,hb⟩;have n0_:=Aside0.mk (blk_below (g:=gb152) (o:=.cells #[.slice A0_0 l0_0.length c0_0,.slice (some ad155) l0_1.length c0_1] 33 (0,0)) qz29 hb);have n1_:=Aside0.mk (below_step qz14 hb);clear BK152 HB;have BK152:=n0_;have HB:=n1_;clear n0_ n1_;(try clear hb);(try clear hb2);(try clear hk);(try clear hi)))
            repeat (go_quiet (first|(go_at_call 52;(with_reducible refine (spec_l3Place.calls k3 ((rd_T88 l0_1 x4_3).f0) ((rd_T88 l0_1 x4_3).f1) ((rd_T88 l0_1 x4_3).f2) false _ A19.out).mono ?_);rintro e w34 ⟨rfl,hb⟩;have n0_:=Aside0.mk (blk_below (g:=gb152) (o:=.cells #[.slice A0_0 l0_0.length c0_0,.slice (some ad155) l0_1.length c0_1] 33 (0,0)) qz29 hb);have n1_:=Aside0.mk (below_step qz14 hb);clear BK152 HB;have BK152:=n0_;have HB:=n1_;clear n0_ n1_;(try clear hb);(try clear hb2);(try clear hk);(try clear hi)));try go_wp2_with (first|(go_at_call 52;(with_reducible refine (spec_l3Place.calls k3 ((rd_T88 l0_1 x4_3).f0) ((rd_T88 l0_1 x4_3).f1) ((rd_T88 l0_1 x4_3).f2) false _ A19.out).mono ?_);rintro e w34 ⟨rfl,hb⟩;have n0_:=Aside0.mk (blk_below (g:=gb152) (o:=.cells #[.slice A0_0 l0_0.length c0_0,.slice (some ad155) l0_1.length c0_1] 33 (0,0)) qz29 hb);have n1_:=Aside0.mk (below_step qz14 hb);clear BK152 HB;have BK152:=n0_;have HB:=n1_;clear n0_ n1_;(try clear hb);(try clear hb2);(try clear hk);(try clear hi))))
            go_ret
            exact ⟨qz3,qz14⟩
          ·rw [if_neg c18] at H
           exact absurd H (by simp)
         ·rw [if_neg c17] at H
          have c17b0:decide (x4_3<(l0_1.length:Int))=false:=decide_eq_false c17
          clear c17
          obtain rfl:=Option.some.inj H
          have hcz35_0:wr.cell? ⟨gb152,0,none⟩=some (.slice A0_0 l0_0.length c0_0):=(blk_cell BK152.out 0).trans rfl
          have hcz35_1:wr.cell? ⟨gb152,1,none⟩=some (.slice A0_1 l0_1.length c0_1):=(blk_cell BK152.out 1).trans rfl
          have hfz35_0:=blk_frozen BK152.out 0
          have hfz35_1:=blk_frozen BK152.out 1
          go_wp2
          repeat (go_quiet (fail);try go_wp2)
          go_ret
          exact ⟨qz3,qz14⟩

end Go.Proofs.YtepkgjcobocbpaaDoor.P
