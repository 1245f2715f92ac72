/- Contracts of functions of the program: each as a Lean function, and that its call does what that says; printed by cprint.py (this session) over print.py of the kit. Conditions: the hypotheses of each theorem. -/
import Derived.Test.YtibencknfheplaaGreatDoorVZ
import Derived.Test.YtibencknfheplaaGreatDoorP0
import Derived.Test.YtibencknfheplaaGreatDoorP12
namespace Go.Proofs.YtibencknfheplaaGreatDoor.P
open Go.RowKit Go.Proofs.YtibencknfheplaaGreatDoorW.PrintWords Go.Proofs.YtibencknfheplaaGreatDoorW.PrintLast Go.Proofs.YtibencknfheplaaGreatDoorW.PrintMore
attribute [local go_sem] max2_int min2_int max_two min_two max_three min_three max_four min_four   -- for this text's walks alone
set_option linter.unusedVariables false
set_option linter.unusedSimpArgs false

/-! ### spec_l20Term: function 30 -/
mutual
def spec_l20Term.l0:Nat→Int→Int→List (S43)→Int→List Int→Int→Option ((List (S43)) × Int)
 | 0,_,_,_,_,_,_=>none
 | k+1,x1,x2,x7,x8,x1000,x1001=>if x8 > 0 then ((spec_l20Leaf.f k x1000 x1001 x2).bind fun bt124=>(if (wrap64 ((wrap64 ((x7.length:Int)+x8))+3))<x1 then ((spec_l20Rd_pick.f k x1000 bt124.2.2.2 3).bind fun bt129=>(spec_l20Term.j1 k x1 x2 x7 x8 (bt129.1 == 0) x1000 bt129.2 bt124.1 bt124.2.1 bt124.2.2.1)) else (spec_l20Term.j1 k x1 x2 x7 x8 false x1000 bt124.2.2.2 bt124.1 bt124.2.1 bt124.2.2.1))) else (some (x7,x1001))
def spec_l20Term.j1:Nat→Int→Int→List (S43)→Int→Bool→List Int→Int→Int→Int→ByteArray→Option ((List (S43)) × Int)
 | 0,_,_,_,_,_,_,_,_,_,_=>none
 | k+1,x1,x2,x7,x8,x27,x1000,x1001,x129000,x129001,x129002=>if x27=true then ((spec_l20Rd_pick.f k x1000 x1001 3).bind fun bt131=>((some (([(⟨#[102]⟩:ByteArray),(⟨#[103]⟩:ByteArray),(⟨#[99]⟩:ByteArray),(⟨#[115]⟩:ByteArray)]:List ByteArray):List ByteArray)).bind fun y133=>((spec_l20Rd_pick.f k x1000 bt131.2 4).bind fun bt136=>(if 0≤bt136.1 then (if bt136.1<(y133.length:Int) then (spec_l20Term.j2 k x1 x2 x7 x8 x1000 bt136.2 3 (wrap64 (1+bt131.1)) (rdOf ByteArray.empty y133 bt136.1)) else (none)) else (none))))) else (spec_l20Term.j2 k x1 x2 x7 x8 x1000 x1001 x129000 x129001 x129002)
def spec_l20Term.j2:Nat→Int→Int→List (S43)→Int→List Int→Int→Int→Int→ByteArray→Option ((List (S43)) × Int)
 | 0,_,_,_,_,_,_,_,_,_=>none
 | k+1,x1,x2,x7,x8,x1000,x1001,x129000,x129001,x129002=>if x129000=3 then (if x7.length<4398046511104 then (spec_l20Term.l0 k x1 x2 (x7++[(⟨x129000,x129001,x129002⟩:S43)]) (wrap64 ((wrap64 (x8 - 1))+x129001)) x1000 x1001) else (none)) else (if x7.length<4398046511104 then (spec_l20Term.l0 k x1 x2 (x7++[(⟨x129000,x129001,x129002⟩:S43)]) (wrap64 (x8 - 1)) x1000 x1001) else (none))
end
def spec_l20Term.f (k:Nat) (s0_0:List Int) (s0_1:Int) (a1:Int) (a2:Int):Option ((List (S43)) × Int):=spec_l20Term.l0 k a1 a2 (([]:List (S43))) 1 s0_0 s0_1
set_option maxHeartbeats 8000000 in
set_option maxRecDepth 100000 in
theorem spec_l20Term.calls (k:Nat) (g:Nat) (s0_0:List Int) (s0_1:Int) (a1:Int) (a2:Int) (r1:List (S43)) (r2:Int) (w0 w:World) (hI:IsS61 w0 w g s0_0 s0_1) (hB:Below w0.heap.size w0 w) (h:spec_l20Term.f k s0_0 s0_1 a1 a2=some (r1,r2)) :
  Calls Tryz.prog 30 #[.pointer (some ⟨g,0,none⟩),.int .i64 a1,.int .i64 a2] w fun e w'=>∃ v0_:Value,e = .returned (v0_)∧Kd.R k43 43 w' w.heap.size (fun _=>True) v0_ r1∧IsS61 w0 w' g s0_0 r2∧Below w0.heap.size w0 w'∧KeepBut w w' g none:=by
 have hu43:=Tryz.underlying43
 have HI0:=Aside0.mk hI
 have HK:=Aside0.mk (KeepBut.refl w g none)
 have HL:=Aside0.mk hB.size
 clear hI
 have HW0:=Aside0.mk hB.size
 have HB:=Aside0.mk hB
 clear hB
 have H:(spec_l20Term.l0 k a1 a2 (([]:List (S43))) 1 s0_0 s0_1)=some (r1,r2):=h
 clear h
 obtain ⟨y121,hy121⟩:∃ y_:List (S43),y_=(([]:List (S43))):=⟨_,rfl⟩
 replace H:(spec_l20Term.l0 k a1 a2 y121 1 s0_0 s0_1)=some (r1,r2):=by first|(rw [hy121];exact H)|exact H
 have Ny121:=Aside0.mk hy121
 clear hy121
 have H':=Aside0.mk H
 clear H
 go_enter Tryz.func30,Tryz.ntmps30
 go_wp2_with (first|((with_reducible refine gate_dst (N:=10) rfl ?_);refine Kd.R_lit k43 _ 43 ?hg (N:=10) ?hd (xs:=([]:List (S43))) (inner:=[]) (ok:=fun _=>True) (okp:=fun _=>True) ?hr ?hp (fun _ hk=>hk) trivial (Below.refl _ _) (Nat.le_refl _) (by simp) ?_;(case hd=>rfl);(case hg=>rfl);(case hr=>first|(go_simp;done)|(go_simp;rfl));(case hp=>exact (Reps.none _ _));intro v122 w4 ho5 hb hg_ hnew_;clear hg_ hnew_;(first|rw [← Ny121.out] at ho5|(simp only [Int.reduceToNat] at ho5;rw [← Ny121.out] at ho5));have n0_:=Aside0.mk (Kd.R_lower ho5 (keep_size (w:=w) (g:=g) (row:=none) qz2));have n1_:=Aside0.mk (IsS61.below qz1 hb);have n2_:=Aside0.mk (KeepBut.trans qz2 (KeepBut.of_below hb g none) (.inl rfl));have n3_:=Aside0.mk (below_step qz3 hb);clear HI0 HK HB;have HO123:=n0_;have HI0:=n1_;have HK:=n2_;have HB:=n3_;clear n0_ n1_ n2_ n3_ hb ho5))
 go_loopg [7,8] k (fun kq v7 v8 w'=>∃ (x7_1:List (S43)) (x8_1:Int) (x1001_1:Int),v8 = .int .i64 x8_1∧Aside0 (spec_l20Term.l0 kq a1 a2 x7_1 x8_1 s0_0 x1001_1=some (r1,r2))∧Aside0 (kq≤k)∧Aside0 (Kd.R k43 43 w' w.heap.size (fun _=>True) v7 x7_1)∧Aside0 (IsS61 w0 w' g s0_0 x1001_1)∧Aside0 (KeepBut w w' g none)∧Aside0 (Below w0.heap.size w0 w'))
 case atStart=>exact ⟨(y121),(1),(s0_1),qz9,H',⟨Nat.le_refl _⟩,⟨by (with_reducible repeat (first|apply Kd.R_alloc|apply Kd.R_drewN|apply Kd.R_drew));exact HO123.out⟩,⟨qz1⟩,⟨qz2⟩,⟨qz3⟩⟩
 case round=>
  clear H'
  try clear p2
  try clear c3
  obtain ⟨x7_1,x8_1,x1001_1,rfl,HA,HK1,HO_7,HI0,HK,HB⟩:=hrel
  cases gk with
  | zero=>exact absurd HA.out (by simp [spec_l20Term.l0])
  | succ k1=>
   have H:=HA.out
   clear HA
   simp only [spec_l20Term.l0] at H
   by_cases c6:x8_1 > 0
   ·rw [if_pos c6] at H
    have c6b0:decide (0<x8_1)=true:=decide_eq_true c6
    clear c6
    replace H:=Option.bind_eq_some_iff.mp H
    obtain ⟨⟨t124,t125,t126,t127⟩,A70,H⟩:=H
    try dsimp only at H
    have A7:=Aside0.mk A70
    clear A70
    have HC8:=Aside0.mk H
    clear H
    go_upto_region 5 with (first|((with_reducible refine gate_callee (f:=48) rfl ?_);refine goesL_ (some 15) rfl rfl Tryz.func48 (by kernel_rfl) rfl #[.pointer (some ⟨g,0,none⟩),.int .i64 a2] rfl qz4 ?_;(with_reducible refine (spec_l20Leaf.calls k1 g s0_0 x1001_1 a2 t124 t125 t126 t127 w0 _ ?side1 ?side2 A7.out).mono ?_);(case side1=>exact qz1);(case side2=>exact qz3);rintro e w9 ⟨rfl,hi,hb,hk⟩;refine ⟨_,rfl,?_⟩;have n0_:=Aside0.mk (Kd.R_mono (Kd.R_keep (IsS61.apart (show IsS61 w0 _ g s0_0 x1001_1 from qz1) qz36 (by decide)) hk (fun _ h=>h.2)) (fun _ h=>h.1));have n1_:=Aside0.mk (KeepBut.trans qz2 hk (.inl rfl));have n2_:=Aside0.mk (hb);have n3_:=Aside0.mk (hi);clear HO_7 HK HB HI0;have HO_7:=n0_;have HK:=n1_;have HB:=n2_;have HI0:=n3_;clear n0_ n1_ n2_ n3_;(try clear hb);(try clear hb2);(try clear hk);(try clear hi))|((with_reducible refine gate_dst (N:=9) rfl ?_);refine box_event ?hg (N:=9) ?hd (cs:=#[.int .i64 0,.int .i64 0,.string (⟨#[]⟩:ByteArray)]) (t:=43) ?hr ?_;(case hd=>rfl);(case hg=>rfl);(case hr=>first|(go_simp;done)|(go_simp;rfl));intro gb128 hg w10 hbox hb;have n0_:=Aside0.mk (Kd.R_below (Kd.R_elderB qz36 gb128 (Nat.le_of_eq hg.symm)) hb);have n1_:=Aside0.mk (IsS61.below qz1 hb);have n2_:=Aside0.mk (KeepBut.trans qz2 (KeepBut.of_below hb g none) (.inl rfl));have n3_:=Aside0.mk (below_step qz3 hb);have n4_:=Aside0.mk (hbox);have n5_:=Aside0.mk ((by rw [hg];exact (keep_size (w:=w) (g:=g) (row:=none) qz2):w.heap.size≤gb128));have n6_:=Aside0.mk ((Nat.le_trans HW0.out (by rw [hg];exact (keep_size (w:=w) (g:=g) (row:=none) qz2):w.heap.size≤gb128):w0.heap.size≤gb128));have n7_:=Aside0.mk ((by rw [hg];exact Nat.ne_of_lt (IsS61.lt (show IsS61 w0 _ g s0_0 t127 from qz1)):g≠gb128));have n8_:=Aside0.mk ((by rw [hg];exact Nat.ne_of_gt (IsS61.lt (show IsS61 w0 _ g s0_0 t127 from qz1)):gb128≠g));clear HO_7 HI0 HK HB;have HO_7:=n0_;have HI0:=n1_;have HK:=n2_;have HB:=n3_;have BK128:=n4_;have GW128:=n5_;have GE128:=n6_;have NB0_128:=n7_;have NB128_0:=n8_;clear n0_ n1_ n2_ n3_ n4_ n5_ n6_ n7_ n8_ hb hbox hg;have hnb11:=NB128_0.out;have hnc11:=NB0_128.out;have hcz12_0:w10.cell? ⟨gb128,0,none⟩=some (.int .i64 0):=(blk_cell BK128.out 0).trans rfl;have hcz12_1:w10.cell? ⟨gb128,1,none⟩=some (.int .i64 0):=(blk_cell BK128.out 1).trans rfl;have hcz12_2:w10.cell? ⟨gb128,2,none⟩=some (.string (⟨#[]⟩:ByteArray)):=(blk_cell BK128.out 2).trans rfl;have hfz12_0:=blk_frozen BK128.out 0;have hfz12_1:=blk_frozen BK128.out 1;have hfz12_2:=blk_frozen BK128.out 2))
    (try simp only [Act.put,List.setIfInBounds_toArray,List.set_cons_zero,List.set_cons_succ])
    go_cut [27] (fun v27 wc=>∃ (kq:Nat) (x27_7:Bool) (x1001_7:Int),v27 = .bool x27_7∧Aside0 (spec_l20Term.j1 kq a1 a2 x7_1 x8_1 x27_7 s0_0 x1001_7 t124 t125 t126=some (r1,r2))∧Aside0 (kq≤k1)∧Aside0 (Kd.R k43 43 wc w.heap.size (fun k_=>k_≠gb128) u7 x7_1)∧Aside0 (wc.heap[gb128]?=some (.cells #[.int .i64 t124,.int .i64 t125,.string t126] 43 (0,0)))∧Aside0 (IsS61 w0 wc g s0_0 x1001_7)∧Aside0 (KeepBut w wc g none)∧Aside0 (Below w0.heap.size w0 wc))
    case first=>
     have H:=HC8.out
     clear HC8
     by_cases c13:(wrap64 ((wrap64 ((x7_1.length:Int)+x8_1))+3))<a1
     ·rw [if_pos c13] at H
      have c13b0:decide ((wrap64 ((wrap64 ((x7_1.length:Int)+x8_1))+3))<a1)=true:=decide_eq_true c13
      clear c13
      (first|rw [c13b0]|rw [c13b1]|(simp only [i64_w,i32_w];rw [c13b0])|skip)
      replace H:=Option.bind_eq_some_iff.mp H
      obtain ⟨⟨t129,t130⟩,A140,H⟩:=H
      try dsimp only at H
      have A14:=Aside0.mk A140
      clear A140
      have H':=Aside0.mk H
      clear H
      obtain ⟨Ao15,co15,eo15⟩:=Kd.R_slice HO_7.out
      subst eo15
      go_wp2_with (first|(go_at_call 16;(with_reducible refine (spec_l20Rd_pick.calls k1 g s0_0 t127 3 t129 t130 w0 _ ?side1 ?side2 A14.out).mono ?_);(case side1=>exact qz16);(case side2=>exact qz20);rintro e w16 ⟨rfl,hi,hb,hk⟩;have n0_:=Aside0.mk (Kd.R_mono (Kd.R_keep (IsS61.apart (show IsS61 w0 _ g s0_0 t127 from qz16) (by (with_reducible repeat (first|apply Kd.R_alloc|apply Kd.R_drewN|apply Kd.R_drew));exact (Kd.R_mono (Kd.R_far (p:=⟨gb128,2,none⟩) (Kd.R_far (p:=⟨gb128,1,none⟩) (Kd.R_far (p:=⟨gb128,0,none⟩) (Kd.R_mono HO_7.out (fun k_ hk=>(⟨hk,hk.2⟩:_∧k_≠gb128))) (fun _ hk=>hk.2) (.int .i64 t124)) (fun _ hk=>hk.2) (.int .i64 t125)) (fun _ hk=>hk.2) (.string t126)) (fun _ h_=>h_.1))) (by decide)) hk (fun _ h=>h.2)) (fun _ h=>h.1));have n1_:=Aside0.mk (KeepBut.blk hk (g':=gb128) (o:=.cells #[.int .i64 t124,.int .i64 t125,.string t126] 43 (0,0)) qz44 NB128_0.out (by simp));have n2_:=Aside0.mk (KeepBut.trans qz19 hk (.inl rfl));have n3_:=Aside0.mk (hb);have n4_:=Aside0.mk (hi);clear HO_7 BK128 HK HB HI0;have HO_7:=n0_;have BK128:=n1_;have HK:=n2_;have HB:=n3_;have HI0:=n4_;clear n0_ n1_ n2_ n3_ n4_;(try clear hb);(try clear hb2);(try clear hk);(try clear hi)))
      go_meet
      case rel=>exact ⟨_,((t129 == 0)),(t130),qz9,H',⟨qz48⟩,⟨by (with_reducible repeat (first|apply Kd.R_alloc|apply Kd.R_drewN|apply Kd.R_drew));exact Kd.R_mono HO_7.out (fun _ hk=>hk.2)⟩,⟨qz39⟩,⟨qz16⟩,⟨qz19⟩,⟨qz20⟩⟩
     ·rw [if_neg c13] at H
      have c13b0:decide ((wrap64 ((wrap64 ((x7_1.length:Int)+x8_1))+3))<a1)=false:=decide_eq_false c13
      clear c13
      (first|rw [c13b0]|rw [c13b1]|(simp only [i64_w,i32_w];rw [c13b0])|skip)
      have H':=Aside0.mk H
      clear H
      obtain ⟨Ao17,co17,eo17⟩:=Kd.R_slice HO_7.out
      subst eo17
      go_wp2
      go_meet
      case rel=>exact ⟨_,(false),(t127),qz9,H',⟨qz48⟩,⟨by (with_reducible repeat (first|apply Kd.R_alloc|apply Kd.R_drewN|apply Kd.R_drew));exact Kd.R_mono (Kd.R_far (p:=⟨gb128,2,none⟩) (Kd.R_far (p:=⟨gb128,1,none⟩) (Kd.R_far (p:=⟨gb128,0,none⟩) (Kd.R_mono HO_7.out (fun k_ hk=>(⟨hk,hk.2⟩:_∧k_≠gb128))) (fun _ hk=>hk.2) (.int .i64 t124)) (fun _ hk=>hk.2) (.int .i64 t125)) (fun _ hk=>hk.2) (.string t126)) (fun _ hk=>hk.1.2)⟩,⟨qz44⟩,⟨qz16⟩,⟨qz19⟩,⟨qz20⟩⟩
    case rest=>
     clear HC8
     try clear c1
     try clear p2
     try clear c3
     try clear c4
     try clear c6
     try clear c6b0
     try clear p6
     try clear c11
     try clear c13
     try clear c13b0
     try clear hcz12_0
     try clear hcz12_1
     try clear hcz12_2
     try clear hfz12_0
     try clear hfz12_1
     try clear hfz12_2
     try clear p2
     obtain ⟨kq,x27_7,x1001_7,rfl,HA,HJ7,HO_7,BK128,HI0,HK,HB⟩:=hcut
     cases kq with
     | zero=>exact absurd HA.out (by simp [spec_l20Term.j1])
     | succ kj7=>
      have H:=HA.out
      clear HA
      simp only [spec_l20Term.j1] at H
      have HC18:=Aside0.mk H
      clear H
      go_upto_if 27 with (fail)
      go_cut [] (fun wc=>∃ (kq:Nat) (x1001_17:Int) (x129000_17:Int) (x129001_17:Int) (x129002_17:ByteArray),Aside0 (spec_l20Term.j2 kq a1 a2 x7_1 x8_1 s0_0 x1001_17 x129000_17 x129001_17 x129002_17=some (r1,r2))∧Aside0 (kq≤kj7)∧Aside0 (Kd.R k43 43 wc w.heap.size (fun k_=>k_≠gb128) u7 x7_1)∧Aside0 (wc.heap[gb128]?=some (.cells #[.int .i64 x129000_17,.int .i64 x129001_17,.string x129002_17] 43 (0,0)))∧Aside0 (IsS61 w0 wc g s0_0 x1001_17)∧Aside0 (KeepBut w wc g none)∧Aside0 (Below w0.heap.size w0 wc))
      case first=>
       have H:=HC18.out
       clear HC18
       by_cases c19:x27_7=true
       ·subst c19
        have H1:((spec_l20Rd_pick.f kj7 s0_0 x1001_7 3).bind fun bt131=>((some (([(⟨#[102]⟩:ByteArray),(⟨#[103]⟩:ByteArray),(⟨#[99]⟩:ByteArray),(⟨#[115]⟩:ByteArray)]:List ByteArray):List ByteArray)).bind fun y133=>((spec_l20Rd_pick.f kj7 s0_0 bt131.2 4).bind fun bt136=>(if 0≤bt136.1 then (if bt136.1<(y133.length:Int) then (spec_l20Term.j2 kj7 a1 a2 x7_1 x8_1 s0_0 bt136.2 3 (wrap64 (1+bt131.1)) (rdOf ByteArray.empty y133 bt136.1)) else (none)) else (none)))))=some (r1,r2):=qz42
        clear H
        have H:=H1
        clear H1
        replace H:=Option.bind_eq_some_iff.mp H
        obtain ⟨⟨t131,t132⟩,A200,H⟩:=H
        try dsimp only at H
        have A20:=Aside0.mk A200
        clear A200
        obtain ⟨y133,hy133⟩:∃ y_:List ByteArray,y_=(([(⟨#[102]⟩:ByteArray),(⟨#[103]⟩:ByteArray),(⟨#[99]⟩:ByteArray),(⟨#[115]⟩:ByteArray)]:List ByteArray)):=⟨_,rfl⟩
        replace H:((spec_l20Rd_pick.f kj7 s0_0 t132 4).bind fun bt136=>(if 0≤bt136.1 then (if bt136.1<(y133.length:Int) then (spec_l20Term.j2 kj7 a1 a2 x7_1 x8_1 s0_0 bt136.2 3 (wrap64 (1+t131)) (rdOf ByteArray.empty y133 bt136.1)) else (none)) else (none)))=some (r1,r2):=by first|(rw [hy133];exact H)|exact H
        have Ny133:=Aside0.mk hy133
        clear hy133
        replace H:=Option.bind_eq_some_iff.mp H
        obtain ⟨⟨t136,t137⟩,A210,H⟩:=H
        try dsimp only at H
        have A21:=Aside0.mk A210
        clear A210
        by_cases c22:0≤t136
        ·rw [if_pos c22] at H
         have c22b0:decide (0≤t136)=true:=decide_eq_true c22
         clear c22
         (first|rw [c22b0]|rw [c22b1]|(simp only [i64_w,i32_w];rw [c22b0])|skip)
         by_cases c23:t136<(y133.length:Int)
         ·rw [if_pos c23] at H
          have c23b0:decide (t136<(y133.length:Int))=true:=decide_eq_true c23
          clear c23
          have H':=Aside0.mk H
          clear H
          go_wp2_with (first|((with_reducible refine gate_callee (f:=16) rfl ?_);refine goesL_ (some 29) rfl rfl Tryz.func16 (by kernel_rfl) rfl #[.pointer (some ⟨g,0,none⟩),.int .i64 3] rfl qz4 ?_;(with_reducible refine (spec_l20Rd_pick.calls kj7 g s0_0 x1001_7 3 t131 t132 w0 _ ?side1 ?side2 A20.out).mono ?_);(case side1=>exact qz16);(case side2=>exact qz20);rintro e w24 ⟨rfl,hi,hb,hk⟩;refine ⟨_,rfl,?_⟩;have n0_:=Aside0.mk (Kd.R_mono (Kd.R_keep (IsS61.apart (show IsS61 w0 _ g s0_0 x1001_7 from qz16) qz36 (by decide)) hk (fun _ h=>h.2)) (fun _ h=>h.1));have n1_:=Aside0.mk (KeepBut.blk hk (g':=gb128) (o:=.cells #[.int .i64 t124,.int .i64 t125,.string t126] 43 (0,0)) qz39 NB128_0.out (by simp));have n2_:=Aside0.mk (KeepBut.trans qz19 hk (.inl rfl));have n3_:=Aside0.mk (hb);have n4_:=Aside0.mk (hi);clear HO_7 BK128 HK HB HI0;have HO_7:=n0_;have BK128:=n1_;have HK:=n2_;have HB:=n3_;have HI0:=n4_;clear n0_ n1_ n2_ n3_ n4_;(try clear hb);(try clear hb2);(try clear hk);(try clear hi))|((with_reducible refine gate_dst (N:=31) rfl ?_);refine Kd.R_lit Kd.string _ 9 ?hg (N:=31) ?hd (xs:=([(⟨#[102]⟩:ByteArray),(⟨#[103]⟩:ByteArray),(⟨#[99]⟩:ByteArray),(⟨#[115]⟩:ByteArray)]:List ByteArray)) (inner:=[.string (⟨#[102]⟩:ByteArray),.string (⟨#[103]⟩:ByteArray),.string (⟨#[99]⟩:ByteArray),.string (⟨#[115]⟩:ByteArray)]) (ok:=fun _=>True) (okp:=fun _=>True) ?hr ?hp (fun _ hk=>hk) trivial (Below.refl _ _) (Nat.le_refl _) (by simp) ?_;(case hd=>rfl);(case hg=>rfl);(case hr=>first|(go_simp;done)|(go_simp;rfl));(case hp=>exact (Reps.one (show Kd.M Kd.string _ _ _ (⟨#[102]⟩:ByteArray) [.string (⟨#[102]⟩:ByteArray)] from rfl) (Reps.one (show Kd.M Kd.string _ _ _ (⟨#[103]⟩:ByteArray) [.string (⟨#[103]⟩:ByteArray)] from rfl) (Reps.one (show Kd.M Kd.string _ _ _ (⟨#[99]⟩:ByteArray) [.string (⟨#[99]⟩:ByteArray)] from rfl) (Reps.one (show Kd.M Kd.string _ _ _ (⟨#[115]⟩:ByteArray) [.string (⟨#[115]⟩:ByteArray)] from rfl) (Reps.none _ _))))));intro v134 w25 ho26 hb hg_ hnew_;clear hg_ hnew_;(first|rw [← Ny133.out] at ho26|(simp only [Int.reduceToNat] at ho26;rw [← Ny133.out] at ho26));have n0_:=Aside0.mk (Kd.R_below qz36 hb);have n1_:=Aside0.mk (Kd.R_lower ho26 (keep_size (w:=w) (g:=g) (row:=none) qz19));have n2_:=Aside0.mk (blk_below (g:=gb128) (o:=.cells #[.int .i64 t124,.int .i64 t125,.string t126] 43 (0,0)) qz39 hb);have n3_:=Aside0.mk (IsS61.below qz16 hb);have n4_:=Aside0.mk (KeepBut.trans qz19 (KeepBut.of_below hb g none) (.inl rfl));have n5_:=Aside0.mk (below_step qz20 hb);clear HO_7 BK128 HI0 HK HB;have HO_7:=n0_;have HO135:=n1_;have BK128:=n2_;have HI0:=n3_;have HK:=n4_;have HB:=n5_;clear n0_ n1_ n2_ n3_ n4_ n5_ hb ho26)|((with_reducible refine gate_callee (f:=16) rfl ?_);refine goesL_ (some 33) rfl rfl Tryz.func16 (by kernel_rfl) rfl #[.pointer (some ⟨g,0,none⟩),.int .i64 4] rfl qz4 ?_;(with_reducible refine (spec_l20Rd_pick.calls kj7 g s0_0 t132 4 t136 t137 w0 _ ?side1 ?side2 A21.out).mono ?_);(case side1=>exact qz16);(case side2=>exact qz20);rintro e w27 ⟨rfl,hi,hb,hk⟩;refine ⟨_,rfl,?_⟩;have n0_:=Aside0.mk (Kd.R_mono (Kd.R_keep (IsS61.apart (show IsS61 w0 _ g s0_0 t132 from qz16) qz36 (by decide)) hk (fun _ h=>h.2)) (fun _ h=>h.1));have n1_:=Aside0.mk (KeepBut.blk hk (g':=gb128) (o:=.cells #[.int .i64 t124,.int .i64 t125,.string t126] 43 (0,0)) qz39 NB128_0.out (by simp));have n2_:=Aside0.mk (Kd.R_mono (Kd.R_keep (IsS61.apart (show IsS61 w0 _ g s0_0 t132 from qz16) (by (with_reducible repeat (first|apply Kd.R_alloc|apply Kd.R_drewN|apply Kd.R_drew));exact HO135.out) (by decide)) hk (fun _ h=>h.2)) (fun _ h=>h.1));have n3_:=Aside0.mk (KeepBut.trans qz19 hk (.inl rfl));have n4_:=Aside0.mk (hb);have n5_:=Aside0.mk (hi);clear HO_7 BK128 HO135 HK HB HI0;have HO_7:=n0_;have BK128:=n1_;have HO135:=n2_;have HK:=n3_;have HB:=n4_;have HI0:=n5_;clear n0_ n1_ n2_ n3_ n4_ n5_;(try clear hb);(try clear hb2);(try clear hk);(try clear hi);obtain ⟨Ao28,co28,eo28⟩:=Kd.R_slice HO135.out;subst eo28;have p138:0≤(t136:Int):=of_decide_eq_true qz6;have q138:t136<(y133.length:Int):=of_decide_eq_true qz6;obtain ⟨ad138,e138,hx138_0⟩:=Kd.at_string (Kd.R_reads' HO135.out).2.2 t136 p138 q138;cases e138;replace p138:=eq_true p138;replace q138:=eq_true q138;have hnb29:=NB128_0.out;have hnc29:=NB0_128.out;have hcz30_0:w27.cell? ⟨gb128,0,none⟩=some (.int .i64 t124):=(blk_cell BK128.out 0).trans rfl;have hcz30_1:w27.cell? ⟨gb128,1,none⟩=some (.int .i64 t125):=(blk_cell BK128.out 1).trans rfl;have hcz30_2:w27.cell? ⟨gb128,2,none⟩=some (.string t126):=(blk_cell BK128.out 2).trans rfl;have hfz30_0:=blk_frozen BK128.out 0;have hfz30_1:=blk_frozen BK128.out 1;have hfz30_2:=blk_frozen BK128.out 2))
          go_meet
          case rel=>exact ⟨_,(t137),(3),(wrap64 (1+t131)),(rdOf ByteArray.empty y133 t136),H',⟨by have:=HK1.out;have:=HJ7.out;first|omega|exact Nat.le_refl _⟩,⟨by (with_reducible repeat (first|apply Kd.R_alloc|apply Kd.R_drewN|apply Kd.R_drew));exact Kd.R_mono (Kd.R_far (p:=⟨gb128,2,none⟩) (Kd.R_far (p:=⟨gb128,1,none⟩) (Kd.R_far (p:=⟨gb128,0,none⟩) (Kd.R_mono HO_7.out (fun k_ hk=>(⟨hk,hk⟩:_∧k_≠gb128))) (fun _ hk=>hk.2) (.int .i64 3)) (fun _ hk=>hk.2) (.int .i64 (wrap64 (1+t131)))) (fun _ hk=>hk.2) (.string (rdOf ByteArray.empty y133 t136))) (fun _ hk=>hk.1)⟩,⟨by (with_reducible repeat (first|refine blk_drewN ?_ _|refine blk_drew ?_|refine blk_alloc ?_ _));refine blk_put (cs:=#[.int .i64 3,.int .i64 (wrap64 (1+t131)),.string t126]) ?_ 2 _ rfl;(with_reducible repeat (first|refine blk_drewN ?_ _|refine blk_drew ?_|refine blk_alloc ?_ _));refine blk_put (cs:=#[.int .i64 3,.int .i64 t125,.string t126]) ?_ 1 _ rfl;(with_reducible repeat (first|refine blk_drewN ?_ _|refine blk_drew ?_|refine blk_alloc ?_ _));refine blk_put (cs:=#[.int .i64 t124,.int .i64 t125,.string t126]) ?_ 0 _ rfl;(with_reducible repeat (first|refine blk_drewN ?_ _|refine blk_drew ?_|refine blk_alloc ?_ _));exact BK128.out⟩,⟨qz16⟩,⟨qz19⟩,⟨qz20⟩⟩
         ·rw [if_neg c23] at H
          exact absurd H (by simp)
        ·rw [if_neg c22] at H
         exact absurd H (by simp)
       ·replace c19:=Bool.eq_false_iff.mpr c19
        subst c19
        have H1:(spec_l20Term.j2 kj7 a1 a2 x7_1 x8_1 s0_0 x1001_7 t124 t125 t126)=some (r1,r2):=qz26
        clear H
        have H:=H1
        clear H1
        have H':=Aside0.mk H
        clear H
        go_wp2
        go_meet
        case rel=>exact ⟨_,(x1001_7),(t124),(t125),(t126),H',⟨by have:=HK1.out;have:=HJ7.out;first|omega|exact Nat.le_refl _⟩,⟨qz36⟩,⟨qz39⟩,⟨qz16⟩,⟨qz19⟩,⟨qz20⟩⟩
      case rest=>
       clear HC18
       try clear c1
       try clear p1
       try clear q1
       try clear hx1
       try clear c2
       try clear p2
       try clear c3
       try clear c4
       try clear c6
       try clear c6b0
       try clear p6
       try clear c11
       try clear c13
       try clear c13b0
       try clear p13
       try clear q13
       try clear hx13
       try clear c16
       try clear c19
       try clear c22
       try clear c22b0
       try clear c23
       try clear c23b0
       try clear c29
       try clear c30
       try clear hcz12_0
       try clear hcz12_1
       try clear hcz12_2
       try clear hcz30_0
       try clear hcz30_1
       try clear hcz30_2
       try clear hfz12_0
       try clear hfz12_1
       try clear hfz12_2
       try clear hfz30_0
       try clear hfz30_1
       try clear hfz30_2
       try clear hx138_0
       try clear p138
       try clear p2
       try clear p6
       try clear q138
       obtain ⟨kq,x1001_17,x129000_17,x129001_17,x129002_17,HA,HJ17,HO_7,BK128,HI0,HK,HB⟩:=hcut
       cases kq with
       | zero=>exact absurd HA.out (by simp [spec_l20Term.j2])
       | succ kj17=>
        have H:=HA.out
        clear HA
        simp only [spec_l20Term.j2] at H
        by_cases c31:x129000_17=3
        ·rw [if_pos c31] at H
         have c31b0:(x129000_17 == 3)=true:=beq_iff_eq.mpr c31
         have c31b1:(x129000_17 != 3)=false:=bne_eq_false_iff_eq.mpr c31
         clear c31
         by_cases c32:x7_1.length<4398046511104
         ·rw [if_pos c32] at H
          have LMc32:=Aside0.mk c32
          clear c32
          obtain ⟨y139,hy139⟩:∃ y_:List (S43),y_=(x7_1++[(⟨x129000_17,x129001_17,x129002_17⟩:S43)]):=⟨_,rfl⟩
          replace H:(spec_l20Term.l0 kj17 a1 a2 y139 (wrap64 ((wrap64 (x8_1 - 1))+x129001_17)) s0_0 x1001_17)=some (r1,r2):=by first|(rw [hy139];exact H)|exact H
          have Ny139:=Aside0.mk hy139
          clear hy139
          have H':=Aside0.mk H
          clear H
          have hnb33:=NB128_0.out
          have hnc33:=NB0_128.out
          have hcz34_0:wc.cell? ⟨gb128,0,none⟩=some (.int .i64 x129000_17):=(blk_cell BK128.out 0).trans rfl
          have hcz34_1:wc.cell? ⟨gb128,1,none⟩=some (.int .i64 x129001_17):=(blk_cell BK128.out 1).trans rfl
          have hcz34_2:wc.cell? ⟨gb128,2,none⟩=some (.string x129002_17):=(blk_cell BK128.out 2).trans rfl
          have hfz34_0:=blk_frozen BK128.out 0
          have hfz34_1:=blk_frozen BK128.out 1
          have hfz34_2:=blk_frozen BK128.out 2
          go_wp2_with (first|((with_reducible refine gate_builtin (b:=.append) (xs:=#[.tmp 46,.tmp 48]) rfl ?_);at_builtin;refine Kd.R_append k43 w.heap.size rfl (.tmp 46) (.tmp 48) 23 43 (.agg #[(.int .i64 0),(.int .i64 0),(.string ⟨#[]⟩)]) 32 rfl Tryz.underlying23 info43 rfl (by decide) (by omega) u7 x7_1 (⟨x129000_17,x129001_17,x129002_17⟩:S43) [.int .i64 x129000_17,.int .i64 x129001_17,.string x129002_17] (fun k_=>k_≠gb128) (fun _=>False) rfl rfl ?aP (fun _ hk=>hk.elim) ?aF ?aO (Below.refl _ _) ?aS ?aL ?_;(case aP=>exact k43_mkM _ _ _ (⟨x129000_17,x129001_17,x129002_17⟩:S43));(case aF=>exact (fun k_ hk=>Kd.freshB (g:=gb128) (o:=.cells #[.int .i64 x129000_17,.int .i64 x129001_17,.string x129002_17] 43 (0,0)) qz39 k_ hk));(case aO=>exact qz36);(case aS=>exact (keep_size (w:=w) (g:=g) (row:=none) qz19));(case aL=>have:=LMc32.out;omega);intro v140 w35 ho hb hg hat;rw [← Ny139.out] at ho;have n0_:=Aside0.mk (blk_grown (g:=gb128) (o:=.cells #[.int .i64 x129000_17,.int .i64 x129001_17,.string x129002_17] 43 (0,0)) qz39 hg (Kd.R_away HO_7.out (fun _ hk=>hk)));have n1_:=Aside0.mk (IsS61.grown qz16 hg (IsS61.own_ne HI0.out HO_7.out (by decide)));have n2_:=Aside0.mk (below_weaken qz20 HL.out hb);have n3_:=Aside0.mk (KeepBut.trans qz19 (KeepBut.of_grown hg g) (Kd.R_base2 HO_7.out));have n4_:=Aside0.mk (ho);clear BK128 HI0 HB HK HO_7;have BK128:=n0_;have HI0:=n1_;have HB:=n2_;have HK:=n3_;have HO141:=n4_;clear n0_ n1_ n2_ n3_ n4_ ho hb hg hat))
          go_roundg kj17
          case measure=>have:=HK1.out;have:=HJ7.out;have:=HJ17.out;omega
          case rel=>exact ⟨(y139),(wrap64 ((wrap64 (x8_1 - 1))+x129001_17)),(x1001_17),qz9,H',⟨by have:=HK1.out;have:=HJ7.out;have:=HJ17.out;omega⟩,⟨by (with_reducible repeat (first|apply Kd.R_alloc|apply Kd.R_drewN|apply Kd.R_drew));exact Kd.R_mono HO141.out (fun _ hk=>trivial)⟩,⟨qz16⟩,⟨qz19⟩,⟨qz20⟩⟩
         ·rw [if_neg c32] at H
          exact absurd H (by simp)
        ·rw [if_neg c31] at H
         have c31b0:(x129000_17 == 3)=false:=beq_eq_false_iff_ne.mpr c31
         have c31b1:(x129000_17 != 3)=true:=bne_iff_ne.mpr c31
         by_cases c36:x7_1.length<4398046511104
         ·rw [if_pos c36] at H
          have LMc36:=Aside0.mk c36
          clear c36
          obtain ⟨y142,hy142⟩:∃ y_:List (S43),y_=(x7_1++[(⟨x129000_17,x129001_17,x129002_17⟩:S43)]):=⟨_,rfl⟩
          replace H:(spec_l20Term.l0 kj17 a1 a2 y142 (wrap64 (x8_1 - 1)) s0_0 x1001_17)=some (r1,r2):=by first|(rw [hy142];exact H)|exact H
          have Ny142:=Aside0.mk hy142
          clear hy142
          have H':=Aside0.mk H
          clear H
          have hnb37:=NB128_0.out
          have hnc37:=NB0_128.out
          have hcz38_0:wc.cell? ⟨gb128,0,none⟩=some (.int .i64 x129000_17):=(blk_cell BK128.out 0).trans rfl
          have hcz38_1:wc.cell? ⟨gb128,1,none⟩=some (.int .i64 x129001_17):=(blk_cell BK128.out 1).trans rfl
          have hcz38_2:wc.cell? ⟨gb128,2,none⟩=some (.string x129002_17):=(blk_cell BK128.out 2).trans rfl
          have hfz38_0:=blk_frozen BK128.out 0
          have hfz38_1:=blk_frozen BK128.out 1
          have hfz38_2:=blk_frozen BK128.out 2
          go_wp2_with (first|((with_reducible refine gate_builtin (b:=.append) (xs:=#[.tmp 46,.tmp 48]) rfl ?_);at_builtin;refine Kd.R_append k43 w.heap.size rfl (.tmp 46) (.tmp 48) 23 43 (.agg #[(.int .i64 0),(.int .i64 0),(.string ⟨#[]⟩)]) 32 rfl Tryz.underlying23 info43 rfl (by decide) (by omega) u7 x7_1 (⟨x129000_17,x129001_17,x129002_17⟩:S43) [.int .i64 x129000_17,.int .i64 x129001_17,.string x129002_17] (fun k_=>k_≠gb128) (fun _=>False) rfl rfl ?aP (fun _ hk=>hk.elim) ?aF ?aO (Below.refl _ _) ?aS ?aL ?_;(case aP=>exact k43_mkM _ _ _ (⟨x129000_17,x129001_17,x129002_17⟩:S43));(case aF=>exact (fun k_ hk=>Kd.freshB (g:=gb128) (o:=.cells #[.int .i64 x129000_17,.int .i64 x129001_17,.string x129002_17] 43 (0,0)) qz39 k_ hk));(case aO=>exact qz36);(case aS=>exact (keep_size (w:=w) (g:=g) (row:=none) qz19));(case aL=>have:=LMc36.out;omega);intro v143 w39 ho hb hg hat;rw [← Ny142.out] at ho;have n0_:=Aside0.mk (blk_grown (g:=gb128) (o:=.cells #[.int .i64 x129000_17,.int .i64 x129001_17,.string x129002_17] 43 (0,0)) qz39 hg (Kd.R_away HO_7.out (fun _ hk=>hk)));have n1_:=Aside0.mk (IsS61.grown qz16 hg (IsS61.own_ne HI0.out HO_7.out (by decide)));have n2_:=Aside0.mk (below_weaken qz20 HL.out hb);have n3_:=Aside0.mk (KeepBut.trans qz19 (KeepBut.of_grown hg g) (Kd.R_base2 HO_7.out));have n4_:=Aside0.mk (ho);clear BK128 HI0 HB HK HO_7;have BK128:=n0_;have HI0:=n1_;have HB:=n2_;have HK:=n3_;have HO144:=n4_;clear n0_ n1_ n2_ n3_ n4_ ho hb hg hat))
          go_roundg kj17
          case measure=>have:=HK1.out;have:=HJ7.out;have:=HJ17.out;omega
          case rel=>exact ⟨(y142),(wrap64 (x8_1 - 1)),(x1001_17),qz9,H',⟨by have:=HK1.out;have:=HJ7.out;have:=HJ17.out;omega⟩,⟨by (with_reducible repeat (first|apply Kd.R_alloc|apply Kd.R_drewN|apply Kd.R_drew));exact Kd.R_mono HO144.out (fun _ hk=>trivial)⟩,⟨qz16⟩,⟨qz19⟩,⟨qz20⟩⟩
         ·rw [if_neg c36] at H
          exact absurd H (by simp)
   ·rw [if_neg c6] at H
    have c6b0:decide (0<x8_1)=false:=decide_eq_false c6
    clear c6
    simp only [Option.some.injEq,Prod.mk.injEq] at H
    obtain ⟨rfl,rfl⟩:=H
    go_wp2
    go_ret
    exact ⟨_,qz8,qz36,qz1,qz3,qz2⟩

/-! ### spec_l20Rd_odd: function 31 -/
def spec_l20Rd_odd.f (k:Nat) (s0_0:List Int) (s0_1:Int) (a1:Int):Option (Bool × Int):=(spec_l20Rd_pick.f k s0_0 s0_1 a1).bind fun bt145=>(some ((bt145.1 == (wrap64 (a1 - 1))),bt145.2))
set_option maxHeartbeats 8000000 in
set_option maxRecDepth 100000 in
theorem spec_l20Rd_odd.calls (k:Nat) (g:Nat) (s0_0:List Int) (s0_1:Int) (a1:Int) (r1:Bool) (r2:Int) (w0 w:World) (hI:IsS61 w0 w g s0_0 s0_1) (hB:Below w0.heap.size w0 w) (h:spec_l20Rd_odd.f k s0_0 s0_1 a1=some (r1,r2)) :
  Calls Tryz.prog 31 #[.pointer (some ⟨g,0,none⟩),.int .i64 a1] w fun e w'=>e = .returned (.bool r1)∧IsS61 w0 w' g s0_0 r2∧Below w0.heap.size w0 w'∧KeepBut w w' g none:=by
 have HI0:=Aside0.mk hI
 have HK:=Aside0.mk (KeepBut.refl w g none)
 have HL:=Aside0.mk hB.size
 clear hI
 have HW0:=Aside0.mk hB.size
 have HB:=Aside0.mk hB
 clear hB
 have H:((spec_l20Rd_pick.f k s0_0 s0_1 a1).bind fun bt145=>(some ((bt145.1 == (wrap64 (a1 - 1))),bt145.2)))=some (r1,r2):=h
 clear h
 replace H:=Option.bind_eq_some_iff.mp H
 obtain ⟨⟨t145,t146⟩,A30,H⟩:=H
 try dsimp only at H
 have A3:=Aside0.mk A30
 clear A30
 simp only [Option.some.injEq,Prod.mk.injEq] at H
 obtain ⟨rfl,rfl⟩:=H
 go_enter Tryz.func31,Tryz.ntmps31
 go_wp2_with (first|((with_reducible refine gate_callee (f:=16) rfl ?_);refine goesL_ (some 7) rfl rfl Tryz.func16 (by kernel_rfl) rfl #[.pointer (some ⟨g,0,none⟩),.int .i64 a1] rfl qz4 ?_;(with_reducible refine (spec_l20Rd_pick.calls k g s0_0 s0_1 a1 t145 t146 w0 _ ?side1 ?side2 A3.out).mono ?_);(case side1=>exact qz1);(case side2=>exact qz3);rintro e w4 ⟨rfl,hi,hb,hk⟩;refine ⟨_,rfl,?_⟩;have n0_:=Aside0.mk (KeepBut.trans qz2 hk (.inl rfl));have n1_:=Aside0.mk (hb);have n2_:=Aside0.mk (hi);clear HK HB HI0;have HK:=n0_;have HB:=n1_;have HI0:=n2_;clear n0_ n1_ n2_;(try clear hb);(try clear hb2);(try clear hk);(try clear hi)))
 go_ret
 exact ⟨qz8,qz1,qz3,qz2⟩

end Go.Proofs.YtibencknfheplaaGreatDoor.P
