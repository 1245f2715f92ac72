/- Contracts of functions of the program: each as a Lean function, and that its call does what that says; printed by cprint.py (this session) over print.py of the kit. Conditions: the hypotheses of each theorem. -/
import Derived.Test.YtlaicnoikeieeaaDoorVZ
import Derived.Test.YtlaicnoikeieeaaDoorP0
import Derived.Test.YtlaicnoikeieeaaDoorP13
import Derived.Test.YtlaicnoikeieeaaDoorP14
import Derived.Test.YtlaicnoikeieeaaDoorP16
namespace Go.Proofs.YtlaicnoikeieeaaDoor.P
open Go.RowKit Go.Proofs.YtlaicnoikeieeaaDoorW.PrintWords Go.Proofs.YtlaicnoikeieeaaDoorW.PrintLast Go.Proofs.YtlaicnoikeieeaaDoorW.PrintMore
attribute [local go_sem] max2_int min2_int max_two min_two max_three min_three max_four min_four   -- for this text's walks alone
set_option linter.unusedVariables false
set_option linter.unusedSimpArgs false

/-! ### spec_l20Term: function 91 -/
mutual
def spec_l20Term.l0:Nat→Int→Int→List (S46)→Int→List Int→Int→Option ((List (S46)) × Int)
 | 0,_,_,_,_,_,_=>none
 | k+1,x1,x2,x7,x8,x1000,x1001=>if x8 > 0 then ((spec_l20Leaf.f k x1000 x1001 x2).bind fun bt326=>(if (wrap64 ((wrap64 ((x7.length:Int)+x8))+3))<x1 then ((spec_l20Rd_pick.f k x1000 bt326.2.2.2 3).bind fun bt331=>(spec_l20Term.j1 k x1 x2 x7 x8 (bt331.1 == 0) x1000 bt331.2 bt326.1 bt326.2.1 bt326.2.2.1)) else (spec_l20Term.j1 k x1 x2 x7 x8 false x1000 bt326.2.2.2 bt326.1 bt326.2.1 bt326.2.2.1))) else (some (x7,x1001))
def spec_l20Term.j1:Nat→Int→Int→List (S46)→Int→Bool→List Int→Int→Int→Int→ByteArray→Option ((List (S46)) × Int)
 | 0,_,_,_,_,_,_,_,_,_,_=>none
 | k+1,x1,x2,x7,x8,x27,x1000,x1001,x331000,x331001,x331002=>if x27=true then ((spec_l20Rd_pick.f k x1000 x1001 3).bind fun bt333=>((some (([(⟨#[102]⟩:ByteArray),(⟨#[103]⟩:ByteArray),(⟨#[99]⟩:ByteArray),(⟨#[115]⟩:ByteArray)]:List ByteArray):List ByteArray)).bind fun y335=>((spec_l20Rd_pick.f k x1000 bt333.2 4).bind fun bt338=>(if 0≤bt338.1 then (if bt338.1<(y335.length:Int) then (spec_l20Term.j2 k x1 x2 x7 x8 x1000 bt338.2 3 (wrap64 (1+bt333.1)) (rdOf ByteArray.empty y335 bt338.1)) else (none)) else (none))))) else (spec_l20Term.j2 k x1 x2 x7 x8 x1000 x1001 x331000 x331001 x331002)
def spec_l20Term.j2:Nat→Int→Int→List (S46)→Int→List Int→Int→Int→Int→ByteArray→Option ((List (S46)) × Int)
 | 0,_,_,_,_,_,_,_,_,_=>none
 | k+1,x1,x2,x7,x8,x1000,x1001,x331000,x331001,x331002=>if x331000=3 then (if x7.length<4398046511104 then (spec_l20Term.l0 k x1 x2 (x7++[(⟨x331000,x331001,x331002⟩:S46)]) (wrap64 ((wrap64 (x8 - 1))+x331001)) x1000 x1001) else (none)) else (if x7.length<4398046511104 then (spec_l20Term.l0 k x1 x2 (x7++[(⟨x331000,x331001,x331002⟩:S46)]) (wrap64 (x8 - 1)) x1000 x1001) else (none))
end
def spec_l20Term.f (k:Nat) (s0_0:List Int) (s0_1:Int) (a1:Int) (a2:Int):Option ((List (S46)) × Int):=spec_l20Term.l0 k a1 a2 (([]:List (S46))) 1 s0_0 s0_1
set_option maxHeartbeats 8000000 in
set_option maxRecDepth 100000 in
theorem spec_l20Term.calls (k:Nat) (g:Nat) (s0_0:List Int) (s0_1:Int) (a1:Int) (a2:Int) (r1:List (S46)) (r2:Int) (w0 w:World) (hI:IsS102 w0 w g s0_0 s0_1) (hB:Below w0.heap.size w0 w) (h:spec_l20Term.f k s0_0 s0_1 a1 a2=some (r1,r2)) :
  Calls Tryd.prog 91 #[.pointer (some ⟨g,0,none⟩),.int .i64 a1,.int .i64 a2] w fun e w'=>∃ v0_:Value,e = .returned (v0_)∧Kd.R k46 46 w' w.heap.size (fun _=>True) v0_ r1∧IsS102 w0 w' g s0_0 r2∧Below w0.heap.size w0 w'∧KeepBut w w' g none:=by
 have hu46:=Tryd.underlying46
 have HI0:=Aside0.mk hI
 have HK:=Aside0.mk (KeepBut.refl w g none)
 have HL:=Aside0.mk hB.size
 clear hI
 have HW0:=Aside0.mk hB.size
 have HB:=Aside0.mk hB
 clear hB
 have H:(spec_l20Term.l0 k a1 a2 (([]:List (S46))) 1 s0_0 s0_1)=some (r1,r2):=h
 clear h
 obtain ⟨y323,hy323⟩:∃ y_:List (S46),y_=(([]:List (S46))):=⟨_,rfl⟩
 replace H:(spec_l20Term.l0 k a1 a2 y323 1 s0_0 s0_1)=some (r1,r2):=by first|(rw [hy323];exact H)|exact H
 have Ny323:=Aside0.mk hy323
 clear hy323
 have H':=Aside0.mk H
 clear H
 go_enter Tryd.func91,Tryd.ntmps91
 go_wp2_with (first|((with_reducible refine gate_dst (N:=10) rfl ?_);refine Kd.R_lit k46 _ 46 ?hg (N:=10) ?hd (xs:=([]:List (S46))) (inner:=[]) (ok:=fun _=>True) (okp:=fun _=>True) ?hr ?hp (fun _ hk=>hk) trivial (Below.refl _ _) (Nat.le_refl _) (by simp) ?_;(case hd=>rfl);(case hg=>rfl);(case hr=>first|(go_simp;done)|(go_simp;rfl));(case hp=>exact (Reps.none _ _));intro v324 w4 ho5 hb hg_ hnew_;clear hg_ hnew_;(first|rw [← Ny323.out] at ho5|(simp only [Int.reduceToNat] at ho5;rw [← Ny323.out] at ho5));have n0_:=Aside0.mk (Kd.R_lower ho5 (keep_size (w:=w) (g:=g) (row:=none) qz2));have n1_:=Aside0.mk (IsS102.below qz1 hb);have n2_:=Aside0.mk (KeepBut.trans qz2 (KeepBut.of_below hb g none) (.inl rfl));have n3_:=Aside0.mk (below_step qz3 hb);clear HI0 HK HB;have HO325:=n0_;have HI0:=n1_;have HK:=n2_;have HB:=n3_;clear n0_ n1_ n2_ n3_ hb ho5))
 go_loopg [7,8] k (fun kq v7 v8 w'=>∃ (x7_1:List (S46)) (x8_1:Int) (x1001_1:Int),v8 = .int .i64 x8_1∧Aside0 (spec_l20Term.l0 kq a1 a2 x7_1 x8_1 s0_0 x1001_1=some (r1,r2))∧Aside0 (kq≤k)∧Aside0 (Kd.R k46 46 w' w.heap.size (fun _=>True) v7 x7_1)∧Aside0 (IsS102 w0 w' g s0_0 x1001_1)∧Aside0 (KeepBut w w' g none)∧Aside0 (Below w0.heap.size w0 w'))
 case atStart=>exact ⟨(y323),(1),(s0_1),qz9,H',⟨Nat.le_refl _⟩,⟨by (with_reducible repeat (first|apply Kd.R_alloc|apply Kd.R_drewN|apply Kd.R_drew));exact HO325.out⟩,⟨qz1⟩,⟨qz2⟩,⟨qz3⟩⟩
 case round=>
  clear H'
  try clear p2
  obtain ⟨x7_1,x8_1,x1001_1,rfl,HA,HK1,HO_7,HI0,HK,HB⟩:=hrel
  cases gk with
  | zero=>exact absurd HA.out (by simp [spec_l20Term.l0])
  | succ k1=>
   have H:=HA.out
   clear HA
   simp only [spec_l20Term.l0] at H
   by_cases c6:x8_1 > 0
   ·rw [if_pos c6] at H
    have c6b0:decide (0<x8_1)=true:=decide_eq_true c6
    clear c6
    replace H:=Option.bind_eq_some_iff.mp H
    obtain ⟨⟨t326,t327,t328,t329⟩,A70,H⟩:=H
    try dsimp only at H
    have A7:=Aside0.mk A70
    clear A70
    have HC8:=Aside0.mk H
    clear H
    go_upto_region 5 with (first|(go_at_call 100;(with_reducible refine (spec_l20Leaf.calls k1 g s0_0 x1001_1 a2 t326 t327 t328 t329 w0 _ ?side1 ?side2 A7.out).mono ?_);(case side1=>exact qz1);(case side2=>exact qz3);rintro e w9 ⟨rfl,hi,hb,hk⟩;have n0_:=Aside0.mk (Kd.R_mono (Kd.R_keep (IsS102.apart (show IsS102 w0 _ g s0_0 x1001_1 from qz1) qz31 (by decide)) hk (fun _ h=>h.2)) (fun _ h=>h.1));have n1_:=Aside0.mk (KeepBut.trans qz2 hk (.inl rfl));have n2_:=Aside0.mk (hb);have n3_:=Aside0.mk (hi);clear HO_7 HK HB HI0;have HO_7:=n0_;have HK:=n1_;have HB:=n2_;have HI0:=n3_;clear n0_ n1_ n2_ n3_;(try clear hb);(try clear hb2);(try clear hk);(try clear hi))|((with_reducible refine gate_dst (N:=9) rfl ?_);refine box_event ?hg (N:=9) ?hd (cs:=#[.int .i64 0,.int .i64 0,.string (⟨#[]⟩:ByteArray)]) (t:=46) ?hr ?_;(case hd=>rfl);(case hg=>rfl);(case hr=>first|(go_simp;done)|(go_simp;rfl));intro gb330 hg w10 hbox hb;have n0_:=Aside0.mk (Kd.R_below (Kd.R_elderB qz31 gb330 (Nat.le_of_eq hg.symm)) hb);have n1_:=Aside0.mk (IsS102.below qz1 hb);have n2_:=Aside0.mk (KeepBut.trans qz2 (KeepBut.of_below hb g none) (.inl rfl));have n3_:=Aside0.mk (below_step qz3 hb);have n4_:=Aside0.mk (hbox);have n5_:=Aside0.mk ((by rw [hg];exact (keep_size (w:=w) (g:=g) (row:=none) qz2):w.heap.size≤gb330));have n6_:=Aside0.mk ((Nat.le_trans HW0.out (by rw [hg];exact (keep_size (w:=w) (g:=g) (row:=none) qz2):w.heap.size≤gb330):w0.heap.size≤gb330));have n7_:=Aside0.mk ((by rw [hg];exact Nat.ne_of_lt (IsS102.lt (show IsS102 w0 _ g s0_0 t329 from qz1)):g≠gb330));have n8_:=Aside0.mk ((by rw [hg];exact Nat.ne_of_gt (IsS102.lt (show IsS102 w0 _ g s0_0 t329 from qz1)):gb330≠g));clear HO_7 HI0 HK HB;have HO_7:=n0_;have HI0:=n1_;have HK:=n2_;have HB:=n3_;have BK330:=n4_;have GW330:=n5_;have GE330:=n6_;have NB0_330:=n7_;have NB330_0:=n8_;clear n0_ n1_ n2_ n3_ n4_ n5_ n6_ n7_ n8_ hb hbox hg;have hnb11:=NB330_0.out;have hnc11:=NB0_330.out;have hcz12_0:w10.cell? ⟨gb330,0,none⟩=some (.int .i64 0):=(blk_cell BK330.out 0).trans rfl;have hcz12_1:w10.cell? ⟨gb330,1,none⟩=some (.int .i64 0):=(blk_cell BK330.out 1).trans rfl;have hcz12_2:w10.cell? ⟨gb330,2,none⟩=some (.string (⟨#[]⟩:ByteArray)):=(blk_cell BK330.out 2).trans rfl;have hfz12_0:=blk_frozen BK330.out 0;have hfz12_1:=blk_frozen BK330.out 1;have hfz12_2:=blk_frozen BK330.out 2))
    (try simp only [Act.put,List.setIfInBounds_toArray,List.set_cons_zero,List.set_cons_succ])
    go_cut [27] (fun v27 wc=>∃ (kq:Nat) (x27_7:Bool) (x1001_7:Int),v27 = .bool x27_7∧Aside0 (spec_l20Term.j1 kq a1 a2 x7_1 x8_1 x27_7 s0_0 x1001_7 t326 t327 t328=some (r1,r2))∧Aside0 (kq≤k1)∧Aside0 (Kd.R k46 46 wc w.heap.size (fun k_=>k_≠gb330) u7 x7_1)∧Aside0 (wc.heap[gb330]?=some (.cells #[.int .i64 t326,.int .i64 t327,.string t328] 46 (0,0)))∧Aside0 (IsS102 w0 wc g s0_0 x1001_7)∧Aside0 (KeepBut w wc g none)∧Aside0 (Below w0.heap.size w0 wc))
    case first=>
     have H:=HC8.out
     clear HC8
     by_cases c13:(wrap64 ((wrap64 ((x7_1.length:Int)+x8_1))+3))<a1
     ·rw [if_pos c13] at H
      have c13b0:decide ((wrap64 ((wrap64 ((x7_1.length:Int)+x8_1))+3))<a1)=true:=decide_eq_true c13
      clear c13
      (first|rw [c13b0]|(simp only [i64_w,i32_w];rw [c13b0])|skip)
      replace H:=Option.bind_eq_some_iff.mp H
      obtain ⟨⟨t331,t332⟩,A140,H⟩:=H
      try dsimp only at H
      have A14:=Aside0.mk A140
      clear A140
      have H':=Aside0.mk H
      clear H
      obtain ⟨Ao15,co15,eo15⟩:=Kd.R_slice HO_7.out
      subst eo15
      go_wp2_with (first|(go_at_call 52;(with_reducible refine (spec_l20Rd_pick.calls k1 g s0_0 t329 3 t331 t332 w0 _ ?side1 ?side2 A14.out).mono ?_);(case side1=>exact qz12);(case side2=>exact qz16);rintro e w16 ⟨rfl,hi,hb,hk⟩;have n0_:=Aside0.mk (Kd.R_mono (Kd.R_keep (IsS102.apart (show IsS102 w0 _ g s0_0 t329 from qz12) (by (with_reducible repeat (first|apply Kd.R_alloc|apply Kd.R_drewN|apply Kd.R_drew));exact (Kd.R_mono (Kd.R_far (p:=⟨gb330,2,none⟩) (Kd.R_far (p:=⟨gb330,1,none⟩) (Kd.R_far (p:=⟨gb330,0,none⟩) (Kd.R_mono HO_7.out (fun k_ hk=>(⟨hk,hk.2⟩:_∧k_≠gb330))) (fun _ hk=>hk.2) (.int .i64 t326)) (fun _ hk=>hk.2) (.int .i64 t327)) (fun _ hk=>hk.2) (.string t328)) (fun _ h_=>h_.1))) (by decide)) hk (fun _ h=>h.2)) (fun _ h=>h.1));have n1_:=Aside0.mk (KeepBut.blk hk (g':=gb330) (o:=.cells #[.int .i64 t326,.int .i64 t327,.string t328] 46 (0,0)) qz40 NB330_0.out (by simp));have n2_:=Aside0.mk (KeepBut.trans qz13 hk (.inl rfl));have n3_:=Aside0.mk (hb);have n4_:=Aside0.mk (hi);clear HO_7 BK330 HK HB HI0;have HO_7:=n0_;have BK330:=n1_;have HK:=n2_;have HB:=n3_;have HI0:=n4_;clear n0_ n1_ n2_ n3_ n4_;(try clear hb);(try clear hb2);(try clear hk);(try clear hi)))
      go_meet
      case rel=>exact ⟨_,((t331 == 0)),(t332),qz9,H',⟨qz54⟩,⟨qz89⟩,⟨qz33⟩,⟨qz12⟩,⟨qz13⟩,⟨qz16⟩⟩
     ·rw [if_neg c13] at H
      have c13b0:decide ((wrap64 ((wrap64 ((x7_1.length:Int)+x8_1))+3))<a1)=false:=decide_eq_false c13
      clear c13
      (first|rw [c13b0]|(simp only [i64_w,i32_w];rw [c13b0])|skip)
      have H':=Aside0.mk H
      clear H
      obtain ⟨Ao17,co17,eo17⟩:=Kd.R_slice HO_7.out
      subst eo17
      go_wp2
      go_meet
      case rel=>exact ⟨_,(false),(t329),qz9,H',⟨qz54⟩,⟨by (with_reducible repeat (first|apply Kd.R_alloc|apply Kd.R_drewN|apply Kd.R_drew));exact Kd.R_mono (Kd.R_far (p:=⟨gb330,2,none⟩) (Kd.R_far (p:=⟨gb330,1,none⟩) (Kd.R_far (p:=⟨gb330,0,none⟩) (Kd.R_mono HO_7.out (fun k_ hk=>(⟨hk,hk.2⟩:_∧k_≠gb330))) (fun _ hk=>hk.2) (.int .i64 t326)) (fun _ hk=>hk.2) (.int .i64 t327)) (fun _ hk=>hk.2) (.string t328)) (fun _ hk=>hk.1.2)⟩,⟨qz40⟩,⟨qz12⟩,⟨qz13⟩,⟨qz16⟩⟩
    case rest=>
     clear HC8
     try clear c1
     try clear p2
     try clear c6
     try clear c6b0
     try clear p6
     try clear c9
     try clear c10
     try clear c11
     try clear c13
     try clear c13b0
     try clear hcz12_0
     try clear hcz12_1
     try clear hcz12_2
     try clear hfz12_0
     try clear hfz12_1
     try clear hfz12_2
     try clear p2
     obtain ⟨kq,x27_7,x1001_7,rfl,HA,HJ7,HO_7,BK330,HI0,HK,HB⟩:=hcut
     cases kq with
     | zero=>exact absurd HA.out (by simp [spec_l20Term.j1])
     | succ kj7=>
      have H:=HA.out
      clear HA
      simp only [spec_l20Term.j1] at H
      have HC18:=Aside0.mk H
      clear H
      go_upto_if 27 with (fail)
      go_cut [] (fun wc=>∃ (kq:Nat) (x1001_17:Int) (x331000_17:Int) (x331001_17:Int) (x331002_17:ByteArray),Aside0 (spec_l20Term.j2 kq a1 a2 x7_1 x8_1 s0_0 x1001_17 x331000_17 x331001_17 x331002_17=some (r1,r2))∧Aside0 (kq≤kj7)∧Aside0 (Kd.R k46 46 wc w.heap.size (fun k_=>k_≠gb330) u7 x7_1)∧Aside0 (wc.heap[gb330]?=some (.cells #[.int .i64 x331000_17,.int .i64 x331001_17,.string x331002_17] 46 (0,0)))∧Aside0 (IsS102 w0 wc g s0_0 x1001_17)∧Aside0 (KeepBut w wc g none)∧Aside0 (Below w0.heap.size w0 wc))
      case first=>
       have H:=HC18.out
       clear HC18
       by_cases c19:x27_7=true
       ·subst c19
        have H1:((spec_l20Rd_pick.f kj7 s0_0 x1001_7 3).bind fun bt333=>((some (([(⟨#[102]⟩:ByteArray),(⟨#[103]⟩:ByteArray),(⟨#[99]⟩:ByteArray),(⟨#[115]⟩:ByteArray)]:List ByteArray):List ByteArray)).bind fun y335=>((spec_l20Rd_pick.f kj7 s0_0 bt333.2 4).bind fun bt338=>(if 0≤bt338.1 then (if bt338.1<(y335.length:Int) then (spec_l20Term.j2 kj7 a1 a2 x7_1 x8_1 s0_0 bt338.2 3 (wrap64 (1+bt333.1)) (rdOf ByteArray.empty y335 bt338.1)) else (none)) else (none)))))=some (r1,r2):=qz34
        clear H
        have H:=H1
        clear H1
        replace H:=Option.bind_eq_some_iff.mp H
        obtain ⟨⟨t333,t334⟩,A200,H⟩:=H
        try dsimp only at H
        have A20:=Aside0.mk A200
        clear A200
        obtain ⟨y335,hy335⟩:∃ y_:List ByteArray,y_=(([(⟨#[102]⟩:ByteArray),(⟨#[103]⟩:ByteArray),(⟨#[99]⟩:ByteArray),(⟨#[115]⟩:ByteArray)]:List ByteArray)):=⟨_,rfl⟩
        replace H:((spec_l20Rd_pick.f kj7 s0_0 t334 4).bind fun bt338=>(if 0≤bt338.1 then (if bt338.1<(y335.length:Int) then (spec_l20Term.j2 kj7 a1 a2 x7_1 x8_1 s0_0 bt338.2 3 (wrap64 (1+t333)) (rdOf ByteArray.empty y335 bt338.1)) else (none)) else (none)))=some (r1,r2):=by first|(rw [hy335];exact H)|exact H
        have Ny335:=Aside0.mk hy335
        clear hy335
        replace H:=Option.bind_eq_some_iff.mp H
        obtain ⟨⟨t338,t339⟩,A210,H⟩:=H
        try dsimp only at H
        have A21:=Aside0.mk A210
        clear A210
        by_cases c22:0≤t338
        ·rw [if_pos c22] at H
         have c22b0:decide (0≤t338)=true:=decide_eq_true c22
         clear c22
         (first|rw [c22b0]|(simp only [i64_w,i32_w];rw [c22b0])|skip)
         by_cases c23:t338<(y335.length:Int)
         ·rw [if_pos c23] at H
          have c23b0:decide (t338<(y335.length:Int))=true:=decide_eq_true c23
          clear c23
          have H':=Aside0.mk H
          clear H
          go_wp2_with (first|(go_at_call 52;(with_reducible refine (spec_l20Rd_pick.calls kj7 g s0_0 x1001_7 3 t333 t334 w0 _ ?side1 ?side2 A20.out).mono ?_);(case side1=>exact qz12);(case side2=>exact qz16);rintro e w24 ⟨rfl,hi,hb,hk⟩;have n0_:=Aside0.mk (Kd.R_mono (Kd.R_keep (IsS102.apart (show IsS102 w0 _ g s0_0 x1001_7 from qz12) qz31 (by decide)) hk (fun _ h=>h.2)) (fun _ h=>h.1));have n1_:=Aside0.mk (KeepBut.blk hk (g':=gb330) (o:=.cells #[.int .i64 t326,.int .i64 t327,.string t328] 46 (0,0)) qz33 NB330_0.out (by simp));have n2_:=Aside0.mk (KeepBut.trans qz13 hk (.inl rfl));have n3_:=Aside0.mk (hb);have n4_:=Aside0.mk (hi);clear HO_7 BK330 HK HB HI0;have HO_7:=n0_;have BK330:=n1_;have HK:=n2_;have HB:=n3_;have HI0:=n4_;clear n0_ n1_ n2_ n3_ n4_;(try clear hb);(try clear hb2);(try clear hk);(try clear hi))|((with_reducible refine gate_dst (N:=31) rfl ?_);refine Kd.R_lit Kd.string _ 9 ?hg (N:=31) ?hd (xs:=([(⟨#[102]⟩:ByteArray),(⟨#[103]⟩:ByteArray),(⟨#[99]⟩:ByteArray),(⟨#[115]⟩:ByteArray)]:List ByteArray)) (inner:=[.string (⟨#[102]⟩:ByteArray),.string (⟨#[103]⟩:ByteArray),.string (⟨#[99]⟩:ByteArray),.string (⟨#[115]⟩:ByteArray)]) (ok:=fun _=>True) (okp:=fun _=>True) ?hr ?hp (fun _ hk=>hk) trivial (Below.refl _ _) (Nat.le_refl _) (by simp) ?_;(case hd=>rfl);(case hg=>rfl);(case hr=>first|(go_simp;done)|(go_simp;rfl));(case hp=>exact (Reps.one (show Kd.M Kd.string _ _ _ (⟨#[102]⟩:ByteArray) [.string (⟨#[102]⟩:ByteArray)] from rfl) (Reps.one (show Kd.M Kd.string _ _ _ (⟨#[103]⟩:ByteArray) [.string (⟨#[103]⟩:ByteArray)] from rfl) (Reps.one (show Kd.M Kd.string _ _ _ (⟨#[99]⟩:ByteArray) [.string (⟨#[99]⟩:ByteArray)] from rfl) (Reps.one (show Kd.M Kd.string _ _ _ (⟨#[115]⟩:ByteArray) [.string (⟨#[115]⟩:ByteArray)] from rfl) (Reps.none _ _))))));intro v336 w25 ho26 hb hg_ hnew_;clear hg_ hnew_;(first|rw [← Ny335.out] at ho26|(simp only [Int.reduceToNat] at ho26;rw [← Ny335.out] at ho26));have n0_:=Aside0.mk (Kd.R_below qz31 hb);have n1_:=Aside0.mk (Kd.R_lower ho26 (keep_size (w:=w) (g:=g) (row:=none) qz13));have n2_:=Aside0.mk (blk_below (g:=gb330) (o:=.cells #[.int .i64 t326,.int .i64 t327,.string t328] 46 (0,0)) qz33 hb);have n3_:=Aside0.mk (IsS102.below qz12 hb);have n4_:=Aside0.mk (KeepBut.trans qz13 (KeepBut.of_below hb g none) (.inl rfl));have n5_:=Aside0.mk (below_step qz16 hb);clear HO_7 BK330 HI0 HK HB;have HO_7:=n0_;have HO337:=n1_;have BK330:=n2_;have HI0:=n3_;have HK:=n4_;have HB:=n5_;clear n0_ n1_ n2_ n3_ n4_ n5_ hb ho26)|(go_at_call 52;(with_reducible refine (spec_l20Rd_pick.calls kj7 g s0_0 t334 4 t338 t339 w0 _ ?side1 ?side2 A21.out).mono ?_);(case side1=>exact qz12);(case side2=>exact qz16);rintro e w27 ⟨rfl,hi,hb,hk⟩;have n0_:=Aside0.mk (Kd.R_mono (Kd.R_keep (IsS102.apart (show IsS102 w0 _ g s0_0 t334 from qz12) qz31 (by decide)) hk (fun _ h=>h.2)) (fun _ h=>h.1));have n1_:=Aside0.mk (KeepBut.blk hk (g':=gb330) (o:=.cells #[.int .i64 t326,.int .i64 t327,.string t328] 46 (0,0)) qz33 NB330_0.out (by simp));have n2_:=Aside0.mk (Kd.R_mono (Kd.R_keep (IsS102.apart (show IsS102 w0 _ g s0_0 t334 from qz12) (by (with_reducible repeat (first|apply Kd.R_alloc|apply Kd.R_drewN|apply Kd.R_drew));exact HO337.out) (by decide)) hk (fun _ h=>h.2)) (fun _ h=>h.1));have n3_:=Aside0.mk (KeepBut.trans qz13 hk (.inl rfl));have n4_:=Aside0.mk (hb);have n5_:=Aside0.mk (hi);clear HO_7 BK330 HO337 HK HB HI0;have HO_7:=n0_;have BK330:=n1_;have HO337:=n2_;have HK:=n3_;have HB:=n4_;have HI0:=n5_;clear n0_ n1_ n2_ n3_ n4_ n5_;(try clear hb);(try clear hb2);(try clear hk);(try clear hi);obtain ⟨Ao28,co28,eo28⟩:=Kd.R_slice HO337.out;subst eo28;have p340:0≤(t338:Int):=of_decide_eq_true qz6;have q340:t338<(y335.length:Int):=of_decide_eq_true qz6;obtain ⟨ad340,e340,hx340_0⟩:=Kd.at_string (Kd.R_reads' HO337.out).2.2 t338 p340 q340;cases e340;replace p340:=eq_true p340;replace q340:=eq_true q340;have hnb29:=NB330_0.out;have hnc29:=NB0_330.out;have hcz30_0:w27.cell? ⟨gb330,0,none⟩=some (.int .i64 t326):=(blk_cell BK330.out 0).trans rfl;have hcz30_1:w27.cell? ⟨gb330,1,none⟩=some (.int .i64 t327):=(blk_cell BK330.out 1).trans rfl;have hcz30_2:w27.cell? ⟨gb330,2,none⟩=some (.string t328):=(blk_cell BK330.out 2).trans rfl;have hfz30_0:=blk_frozen BK330.out 0;have hfz30_1:=blk_frozen BK330.out 1;have hfz30_2:=blk_frozen BK330.out 2))
          go_meet
          case rel=>exact ⟨_,(t339),(3),(wrap64 (1+t333)),(rdOf ByteArray.empty y335 t338),H',⟨by have:=HK1.out;have:=HJ7.out;first|omega|exact Nat.le_refl _⟩,⟨by (with_reducible repeat (first|apply Kd.R_alloc|apply Kd.R_drewN|apply Kd.R_drew));exact Kd.R_mono (Kd.R_far (p:=⟨gb330,2,none⟩) (Kd.R_far (p:=⟨gb330,1,none⟩) (Kd.R_far (p:=⟨gb330,0,none⟩) (Kd.R_mono HO_7.out (fun k_ hk=>(⟨hk,hk⟩:_∧k_≠gb330))) (fun _ hk=>hk.2) (.int .i64 3)) (fun _ hk=>hk.2) (.int .i64 (wrap64 (1+t333)))) (fun _ hk=>hk.2) (.string (rdOf ByteArray.empty y335 t338))) (fun _ hk=>hk.1)⟩,⟨by (with_reducible repeat (first|refine blk_drewN ?_ _|refine blk_drew ?_|refine blk_alloc ?_ _));refine blk_put (cs:=#[.int .i64 3,.int .i64 (wrap64 (1+t333)),.string t328]) ?_ 2 _ rfl;(with_reducible repeat (first|refine blk_drewN ?_ _|refine blk_drew ?_|refine blk_alloc ?_ _));refine blk_put (cs:=#[.int .i64 3,.int .i64 t327,.string t328]) ?_ 1 _ rfl;(with_reducible repeat (first|refine blk_drewN ?_ _|refine blk_drew ?_|refine blk_alloc ?_ _));refine blk_put (cs:=#[.int .i64 t326,.int .i64 t327,.string t328]) ?_ 0 _ rfl;(with_reducible repeat (first|refine blk_drewN ?_ _|refine blk_drew ?_|refine blk_alloc ?_ _));exact BK330.out⟩,⟨qz12⟩,⟨qz13⟩,⟨qz16⟩⟩
         ·rw [if_neg c23] at H
          exact absurd H (by simp)
        ·rw [if_neg c22] at H
         exact absurd H (by simp)
       ·replace c19:=Bool.eq_false_iff.mpr c19
        subst c19
        have H1:(spec_l20Term.j2 kj7 a1 a2 x7_1 x8_1 s0_0 x1001_7 t326 t327 t328)=some (r1,r2):=qz21
        clear H
        have H:=H1
        clear H1
        have H':=Aside0.mk H
        clear H
        go_wp2
        go_meet
        case rel=>exact ⟨_,(x1001_7),(t326),(t327),(t328),H',⟨by have:=HK1.out;have:=HJ7.out;first|omega|exact Nat.le_refl _⟩,⟨qz31⟩,⟨qz33⟩,⟨qz12⟩,⟨qz13⟩,⟨qz16⟩⟩
      case rest=>
       clear HC18
       try clear c1
       try clear c2
       try clear p2
       try clear p3
       try clear q3
       try clear hx3
       try clear c5
       try clear c6
       try clear c6b0
       try clear p6
       try clear c9
       try clear c10
       try clear c11
       try clear c13
       try clear c13b0
       try clear c19
       try clear c22
       try clear c22b0
       try clear c23
       try clear c23b0
       try clear c29
       try clear hcz12_0
       try clear hcz12_1
       try clear hcz12_2
       try clear hcz30_0
       try clear hcz30_1
       try clear hcz30_2
       try clear hfz12_0
       try clear hfz12_1
       try clear hfz12_2
       try clear hfz30_0
       try clear hfz30_1
       try clear hfz30_2
       try clear hx340_0
       try clear p2
       try clear p340
       try clear p6
       try clear q340
       obtain ⟨kq,x1001_17,x331000_17,x331001_17,x331002_17,HA,HJ17,HO_7,BK330,HI0,HK,HB⟩:=hcut
       cases kq with
       | zero=>exact absurd HA.out (by simp [spec_l20Term.j2])
       | succ kj17=>
        have H:=HA.out
        clear HA
        simp only [spec_l20Term.j2] at H
        by_cases c31:x331000_17=3
        ·rw [if_pos c31] at H
         have c31b0:(x331000_17 == 3)=true:=beq_iff_eq.mpr c31
         have c31b1:(x331000_17 != 3)=false:=bne_eq_false_iff_eq.mpr c31
         clear c31
         by_cases c32:x7_1.length<4398046511104
         ·rw [if_pos c32] at H
          have LMc32:=Aside0.mk c32
          clear c32
          obtain ⟨y341,hy341⟩:∃ y_:List (S46),y_=(x7_1++[(⟨x331000_17,x331001_17,x331002_17⟩:S46)]):=⟨_,rfl⟩
          replace H:(spec_l20Term.l0 kj17 a1 a2 y341 (wrap64 ((wrap64 (x8_1 - 1))+x331001_17)) s0_0 x1001_17)=some (r1,r2):=by first|(rw [hy341];exact H)|exact H
          have Ny341:=Aside0.mk hy341
          clear hy341
          have H':=Aside0.mk H
          clear H
          have hnb33:=NB330_0.out
          have hnc33:=NB0_330.out
          have hcz34_0:wc.cell? ⟨gb330,0,none⟩=some (.int .i64 x331000_17):=(blk_cell BK330.out 0).trans rfl
          have hcz34_1:wc.cell? ⟨gb330,1,none⟩=some (.int .i64 x331001_17):=(blk_cell BK330.out 1).trans rfl
          have hcz34_2:wc.cell? ⟨gb330,2,none⟩=some (.string x331002_17):=(blk_cell BK330.out 2).trans rfl
          have hfz34_0:=blk_frozen BK330.out 0
          have hfz34_1:=blk_frozen BK330.out 1
          have hfz34_2:=blk_frozen BK330.out 2
          go_wp2_with (first|((with_reducible refine gate_builtin (b:=.append) (xs:=#[.tmp 46,.tmp 48]) rfl ?_);at_builtin;refine Kd.R_append k46 w.heap.size rfl (.tmp 46) (.tmp 48) 26 46 (.agg #[(.int .i64 0),(.int .i64 0),(.string ⟨#[]⟩)]) 32 rfl Tryd.underlying26 info46 rfl (by decide) (by omega) u7 x7_1 (⟨x331000_17,x331001_17,x331002_17⟩:S46) [.int .i64 x331000_17,.int .i64 x331001_17,.string x331002_17] (fun k_=>k_≠gb330) (fun _=>False) rfl rfl ?aP (fun _ hk=>hk.elim) ?aF ?aO (Below.refl _ _) ?aS ?aL ?_;(case aP=>exact k46_mkM _ _ _ (⟨x331000_17,x331001_17,x331002_17⟩:S46));(case aF=>exact (fun k_ hk=>Kd.freshB (g:=gb330) (o:=.cells #[.int .i64 x331000_17,.int .i64 x331001_17,.string x331002_17] 46 (0,0)) qz33 k_ hk));(case aO=>exact qz31);(case aS=>exact (keep_size (w:=w) (g:=g) (row:=none) qz13));(case aL=>have:=LMc32.out;omega);intro v342 w35 ho hb hg hat;rw [← Ny341.out] at ho;have n0_:=Aside0.mk (blk_grown (g:=gb330) (o:=.cells #[.int .i64 x331000_17,.int .i64 x331001_17,.string x331002_17] 46 (0,0)) qz33 hg (Kd.R_away HO_7.out (fun _ hk=>hk)));have n1_:=Aside0.mk (IsS102.grown qz12 hg (IsS102.own_ne HI0.out HO_7.out (by decide)));have n2_:=Aside0.mk (below_weaken qz16 HL.out hb);have n3_:=Aside0.mk (KeepBut.trans qz13 (KeepBut.of_grown hg g) (Kd.R_base2 HO_7.out));have n4_:=Aside0.mk (ho);clear BK330 HI0 HB HK HO_7;have BK330:=n0_;have HI0:=n1_;have HB:=n2_;have HK:=n3_;have HO343:=n4_;clear n0_ n1_ n2_ n3_ n4_ ho hb hg hat))
          go_roundg kj17
          case measure=>have:=HK1.out;have:=HJ7.out;have:=HJ17.out;omega
          case rel=>exact ⟨(y341),(wrap64 ((wrap64 (x8_1 - 1))+x331001_17)),(x1001_17),qz9,H',⟨by have:=HK1.out;have:=HJ7.out;have:=HJ17.out;omega⟩,⟨by (with_reducible repeat (first|apply Kd.R_alloc|apply Kd.R_drewN|apply Kd.R_drew));exact Kd.R_mono HO343.out (fun _ hk=>trivial)⟩,⟨qz12⟩,⟨qz13⟩,⟨qz16⟩⟩
         ·rw [if_neg c32] at H
          exact absurd H (by simp)
        ·rw [if_neg c31] at H
         have c31b0:(x331000_17 == 3)=false:=beq_eq_false_iff_ne.mpr c31
         have c31b1:(x331000_17 != 3)=true:=bne_iff_ne.mpr c31
         by_cases c36:x7_1.length<4398046511104
         ·rw [if_pos c36] at H
          have LMc36:=Aside0.mk c36
          clear c36
          obtain ⟨y344,hy344⟩:∃ y_:List (S46),y_=(x7_1++[(⟨x331000_17,x331001_17,x331002_17⟩:S46)]):=⟨_,rfl⟩
          replace H:(spec_l20Term.l0 kj17 a1 a2 y344 (wrap64 (x8_1 - 1)) s0_0 x1001_17)=some (r1,r2):=by first|(rw [hy344];exact H)|exact H
          have Ny344:=Aside0.mk hy344
          clear hy344
          have H':=Aside0.mk H
          clear H
          have hnb37:=NB330_0.out
          have hnc37:=NB0_330.out
          have hcz38_0:wc.cell? ⟨gb330,0,none⟩=some (.int .i64 x331000_17):=(blk_cell BK330.out 0).trans rfl
          have hcz38_1:wc.cell? ⟨gb330,1,none⟩=some (.int .i64 x331001_17):=(blk_cell BK330.out 1).trans rfl
          have hcz38_2:wc.cell? ⟨gb330,2,none⟩=some (.string x331002_17):=(blk_cell BK330.out 2).trans rfl
          have hfz38_0:=blk_frozen BK330.out 0
          have hfz38_1:=blk_frozen BK330.out 1
          have hfz38_2:=blk_frozen BK330.out 2
          go_wp2_with (first|((with_reducible refine gate_builtin (b:=.append) (xs:=#[.tmp 46,.tmp 48]) rfl ?_);at_builtin;refine Kd.R_append k46 w.heap.size rfl (.tmp 46) (.tmp 48) 26 46 (.agg #[(.int .i64 0),(.int .i64 0),(.string ⟨#[]⟩)]) 32 rfl Tryd.underlying26 info46 rfl (by decide) (by omega) u7 x7_1 (⟨x331000_17,x331001_17,x331002_17⟩:S46) [.int .i64 x331000_17,.int .i64 x331001_17,.string x331002_17] (fun k_=>k_≠gb330) (fun _=>False) rfl rfl ?aP (fun _ hk=>hk.elim) ?aF ?aO (Below.refl _ _) ?aS ?aL ?_;(case aP=>exact k46_mkM _ _ _ (⟨x331000_17,x331001_17,x331002_17⟩:S46));(case aF=>exact (fun k_ hk=>Kd.freshB (g:=gb330) (o:=.cells #[.int .i64 x331000_17,.int .i64 x331001_17,.string x331002_17] 46 (0,0)) qz33 k_ hk));(case aO=>exact qz31);(case aS=>exact (keep_size (w:=w) (g:=g) (row:=none) qz13));(case aL=>have:=LMc36.out;omega);intro v345 w39 ho hb hg hat;rw [← Ny344.out] at ho;have n0_:=Aside0.mk (blk_grown (g:=gb330) (o:=.cells #[.int .i64 x331000_17,.int .i64 x331001_17,.string x331002_17] 46 (0,0)) qz33 hg (Kd.R_away HO_7.out (fun _ hk=>hk)));have n1_:=Aside0.mk (IsS102.grown qz12 hg (IsS102.own_ne HI0.out HO_7.out (by decide)));have n2_:=Aside0.mk (below_weaken qz16 HL.out hb);have n3_:=Aside0.mk (KeepBut.trans qz13 (KeepBut.of_grown hg g) (Kd.R_base2 HO_7.out));have n4_:=Aside0.mk (ho);clear BK330 HI0 HB HK HO_7;have BK330:=n0_;have HI0:=n1_;have HB:=n2_;have HK:=n3_;have HO346:=n4_;clear n0_ n1_ n2_ n3_ n4_ ho hb hg hat))
          go_roundg kj17
          case measure=>have:=HK1.out;have:=HJ7.out;have:=HJ17.out;omega
          case rel=>exact ⟨(y344),(wrap64 (x8_1 - 1)),(x1001_17),qz9,H',⟨by have:=HK1.out;have:=HJ7.out;have:=HJ17.out;omega⟩,⟨by (with_reducible repeat (first|apply Kd.R_alloc|apply Kd.R_drewN|apply Kd.R_drew));exact Kd.R_mono HO346.out (fun _ hk=>trivial)⟩,⟨qz12⟩,⟨qz13⟩,⟨qz16⟩⟩
         ·rw [if_neg c36] at H
          exact absurd H (by simp)
   ·rw [if_neg c6] at H
    have c6b0:decide (0<x8_1)=false:=decide_eq_false c6
    clear c6
    simp only [Option.some.injEq,Prod.mk.injEq] at H
    obtain ⟨rfl,rfl⟩:=H
    go_wp2
    go_ret
    exact ⟨_,qz7,qz31,qz1,qz3,qz2⟩

/-! ### spec_l20Binds: function 88 -/
/-- bindings drawn, one pair of terms behind the other -/
def bindsF (K:Nat) (b:List Int):Nat→List Cat.Bind→Int→Int→Option (List Cat.Bind × Int)
 | 0,_,_,_=>none
 | f+1,s,c,p=>if c≤0 then some (s,p) else if c≤1000 then (spec_l2Copy.f K s).bind fun s1=>(spec_l20Term.f K b p 8 6).bind fun t1=>(spec_l20Term.f K b t1.2 8 6).bind fun t2=>
   (l2uniF K K s1 [t1.1] [t2.1]).bind fun q=>bindsF K b f (match q with|none=>s|some x=>x) (c - 1) t2.2 else none
def spec_l20Binds.f (k:Nat) (s0_0:List Int) (s0_1:Int):Option (List (S30) × Int):=(spec_l20Rd_pick.f k s0_0 s0_1 6).bind fun t=>bindsF k s0_0 k [] t.1 t.2
theorem S_keepg {wr w':World} {base g:Nat} {u:Value} {s:List Cat.Bind} (h:Kd.S k30 30 wr base (fun _=>True) u s) (hk:KeepBut wr w' g none) (hg:g<base):Kd.S k30 30 w' base (fun _=>True) u s:=
 Kd.S_mono (Kd.S_keep (ok:=fun k=>base≤k) (Kd.S_mono (Kd.S_bound h) (fun k hk=>hk.2.1)) hk (fun k hk=>by omega)) (fun _ _=>trivial)
theorem keep_grown {w wr w':World} {g:Nat} {row:Option Nat} (h:KeepBut w wr g none) (hg:wr.grownBy w' row) (hr:∀ k,row=some k→w.heap.size≤k):KeepBut w w' g none:=
 ⟨Nat.le_trans h.1 hg.size,fun k hlt hk _=>(hg.block k (Nat.lt_of_lt_of_le hlt h.1) (fun e=>by have:=hr k e.symm;omega)).trans (h.2 k hlt hk (by simp))⟩
theorem keep_keep {w wr w':World} {g:Nat} (h:KeepBut w wr g none) (k:KeepBut wr w' g none):KeepBut w w' g none:=
 ⟨Nat.le_trans h.1 k.1,fun i hlt hk _=>(k.2 i (Nat.lt_of_lt_of_le hlt h.1) hk (by simp)).trans (h.2 i hlt hk (by simp))⟩
/-- what is held while bindings are drawn -/
structure BLoop (w0 w wr:World) (g:Nat) (b:List Int) (p:Int) (u3:Value) (s:List Cat.Bind):Prop where
 mS:Kd.S k30 30 wr w.heap.size (fun _=>True) u3 s
 mI:IsS102 w0 wr g b p
 mB:Below w0.heap.size w0 wr
 mK:KeepBut w wr g none
/-- l2Unify of a copy and of two terms that were drawn behind it -/
theorem drawn_unify {w0 w wr w5 w6 w7:World} {g K:Nat} {b:List Int} {p p2:Int} {A3 A6 A7:Option Addr} {c3 c6 c7:Nat} {v5:Value} {s s1:List Cat.Bind} {t1 t2:List Cat.Cell} {q:Option (List Cat.Bind)} (hm:BLoop w0 w wr g b p (.slice A3 s.length c3) s)
  (hgl:g<w.heap.size) (hwb:w0.heap.size≤w.heap.size) (hb5:Below wr.heap.size wr w5) (ho5:Kd.S k30 30 w5 wr.heap.size (fun _=>True) v5 s1)
  (ho6:Kd.R k46 46 w6 w5.heap.size (fun _=>True) (.slice A6 t1.length c6) t1) (hk6:KeepBut w5 w6 g none) (ho7:Kd.R k46 46 w7 w6.heap.size (fun _=>True) (.slice A7 t2.length c7) t2) (hi7:IsS102 w0 w7 g b p2) (hb7:Below w0.heap.size w0 w7) (hk7:KeepBut w6 w7 g none) (h:l2uniF K K s1 [t1] [t2]=some q) :
  Calls Tryd.prog 99 #[v5,.slice A6 t1.length c6,.slice A7 t2.length c7] w7 fun e w'=>∃ v8,e = .returned (.tuple #[v8,.bool q.isSome])∧BLoop w0 w w' g b p2 (match q with|none=>.slice A3 s.length c3|some _=>v8) (match q with|none=>s|some x=>x):=by
 have hww:=hm.mK.1
 have z5:=hb5.size
 have z6:=hk6.1
 have z7:=hk7.1
 have hv5:∀ k,v5.ownBlock=some k→wr.heap.size≤k∧k<w5.heap.size:=fun k e=>⟨Kd.S_base ho5 k e,Kd.S_lt ho5 k e⟩
 have hS5:Kd.S k30 30 w7 w.heap.size (fun _=>True) v5 s1:=Kd.S_lower (S_keepg (S_keepg ho5 hk6 (by omega)) hk7 (by omega)) hww
 have hS3:Kd.S k30 30 w7 w.heap.size (fun k=>k<wr.heap.size) (.slice A3 s.length c3) s:=
  Kd.S_mono (Kd.S_keep (ok:=fun k=>w.heap.size≤k∧k<wr.heap.size) (Kd.S_keep (ok:=fun k=>w.heap.size≤k∧k<wr.heap.size) (Kd.S_below (Kd.S_mono (Kd.S_bound hm.mS) (fun k hk=>⟨hk.2.1,hk.2.2.1⟩)) hb5) hk6 (fun k hk=>by omega)) hk7 (fun k hk=>by omega)) (fun k hk=>hk.2)
 have hF6:Kd.F k46 w7 (fun k=>some k≠v5.ownBlock) A6 t1.length t1:=Kd.F_mono (Kd.F_step (Kd.R_F (Kd.R_bound ho6)) (fun k hk hlt=>hk7.2 k hlt (by have:=hk.2.1;omega) (by simp))) (fun k hk e=>by have:=hv5 k e.symm;have:=hk.2.1;omega)
 have hF7:Kd.F k46 w7 (fun k=>some k≠v5.ownBlock) A7 t2.length t2:=Kd.F_mono (Kd.R_F (Kd.R_bound ho7)) (fun k hk e=>by have:=hv5 k e.symm;have:=hk.2.1;omega)
 refine (spec_l2Unify.any w.heap.size v5 s1 w7 K K t1 t2 A6 A7 c6 c7 q hS5 (by omega) hF6 (Kd.R_reads' ho6).2.1 hF7 (Kd.R_reads' ho7).2.1 h).mono ?_
 rintro e w' ⟨v8,rfl,h1,h2,h3⟩
 refine ⟨v8,rfl,?_,hi7.grown h2 (fun e=>by have:=hv5 g e.symm;omega),hb7.grown h2 (by omega) (fun k e=>by have:=hv5 k e;omega),keep_grown (keep_keep (keep_keep (keep_keep hm.mK ⟨z5,fun i hi _ _=>hb5.block i hi⟩) hk6) hk7) h2 (fun k e=>by have:=hv5 k e;omega)⟩
 cases q with
 | none=>exact Kd.S_mono (Kd.S_grown hS3 h2 (fun k hk e=>by have:=hv5 k e.symm;omega)) (fun _ _=>trivial)
 | some x=>exact h1 x rfl
set_option maxHeartbeats 16000000 in
set_option maxRecDepth 100000 in
theorem spec_l20Binds.calls (k:Nat) (g:Nat) (s0_0:List Int) (s0_1:Int) (r1:List (S30)) (r2:Int) (w0 w:World) (hI:IsS102 w0 w g s0_0 s0_1) (hB:Below w0.heap.size w0 w) (h:spec_l20Binds.f k s0_0 s0_1=some (r1,r2)) :
  Calls Tryd.prog 88 #[.pointer (some ⟨g,0,none⟩)] w fun e w'=>∃ v0_:Value,e = .returned (v0_)∧Kd.S k30 30 w' w.heap.size (fun _=>True) v0_ r1∧IsS102 w0 w' g s0_0 r2∧Below w0.heap.size w0 w'∧KeepBut w w' g none:=by
 unfold spec_l20Binds.f at h
 obtain ⟨⟨c,p⟩,h1,h2⟩:=Option.bind_eq_some_iff.1 h
 have HI:=Aside0.mk hI
 have HB:=Aside0.mk hB
 have H1:=Aside0.mk h1
 have H2:=Aside0.mk h2
 have hgl:=hI.lt
 have HWB:=Aside0.mk hB.size
 clear h h1 h2 hI hB
 go_enter Tryd.func88,Tryd.ntmps88
 go_wp2_with (first
  | ((with_reducible refine gate_dst (N:=7) rfl ?_);refine Kd.S_lit k30 (w0:=w) w.heap.size 30 ?hg (N:=7) ?hd (xs:=([]:List (S30))) (inner:=[]) (ok:=fun _=>True) (okp:=fun _=>True) ?hr ?hp (fun _ hk=>hk) trivial (Below.refl _ _) (Nat.le_refl _) (by simp) ?_;(case hd=>rfl);(case hg=>rfl);(case hr=>first|(go_simp;done)|(go_simp;rfl));(case hp=>exact (Reps.none _ _));intro v3 w3 ho3 hb3 hg3 hnew3;have HO3:=Aside0.mk ho3;have HB3:=Aside0.mk hb3;clear ho3 hb3 hg3 hnew3)
  | (go_at_call 52;(with_reducible refine (spec_l20Rd_pick.calls k g s0_0 s0_1 6 c p w0 _ (HI.out.below HB3.out) (HB.out.trans (HB3.out.mono HWB.out)) H1.out).mono ?_);rintro e w4 ⟨rfl,hi4,hb4,hk4⟩;have HL:=Aside0.mk (show BLoop w0 w w4 g s0_0 p v3 [] from ⟨S_keepg HO3.out hk4 hgl,hi4,hb4,keep_keep ⟨HB3.out.size,fun i hi _ _=>HB3.out.block i hi⟩ hk4⟩);clear hi4 hb4 hk4))
 clear HO3 HB3
 go_loopg [3,4,5,6] k (fun gg u3 u4 _ _ wr=>∃ (s:List Cat.Bind) (c p:Int),u4 = .int .i64 c∧Aside0 (BLoop w0 w wr g s0_0 p u3 s)∧Aside0 (bindsF k s0_0 gg s c p=some (r1,r2)))
 case atStart=>exact ⟨[],c,p,rfl,HL,H2⟩
 case round=>
  obtain ⟨s,c,p,rfl,HM,HF⟩:=hrel
  cases gk with
  | zero=>exact absurd HF.out (by simp [bindsF])
  | succ gk=>
   have h:=HF.out
   rw [bindsF] at h
   by_cases hc0:c≤0
   ·rw [if_pos hc0] at h
    injection h with h
    injection h with h h'
    subst h h'
    clear HF
    have hcn:¬ (0:Int)<c:=by omega
    go_wp2
    go_ret
    exact ⟨_,rfl,HM.out.mS,HM.out.mI,HM.out.mB,HM.out.mK⟩
   ·rw [if_neg hc0] at h
    by_cases hc1:c≤1000
    case neg=>rw [if_neg hc1] at h;cases h
    rw [if_pos hc1] at h
    obtain ⟨s1,h1,h2⟩:=Option.bind_eq_some_iff.1 h
    obtain ⟨⟨t1,p1⟩,h3,h4⟩:=Option.bind_eq_some_iff.1 h2
    obtain ⟨⟨t2,p2⟩,h5,h6⟩:=Option.bind_eq_some_iff.1 h4
    obtain ⟨q,h7,h8⟩:=Option.bind_eq_some_iff.1 h6
    have G1:=Aside0.mk h1
    have G3:=Aside0.mk h3
    have G5:=Aside0.mk h5
    have G7:=Aside0.mk h7
    have G8:=Aside0.mk h8
    clear h h1 h2 h3 h4 h5 h6 h7 h8 HF HL H2 H1
    have hcp:(0:Int)<c:=by omega
    obtain ⟨A3,c3,e3⟩:=Kd.S_slice HM.out.mS
    subst e3
    have HSC:=Aside0.mk (Kd.S_reads' HM.out.mS)
    have HWW:=Aside0.mk (show w.heap.size≤wr.heap.size from HM.out.mK.1)
    clear hc0
    cases q with
    | none=>
     go_wp2_with (first
      | (go_at_call 87;(with_reducible refine (spec_l2Copy.calls k A3 c3 s s1 _ HSC.out.2.2 HSC.out.2.1 G1.out).mono ?_);rintro e w5 ⟨v5,rfl,ho5,hb5⟩;have HO5:=Aside0.mk ho5;have HB5:=Aside0.mk hb5;clear ho5 hb5)
      | (go_at_call 91;(with_reducible refine (spec_l20Term.calls k g s0_0 p 8 6 t1 p1 w0 _ (HM.out.mI.below HB5.out) (HM.out.mB.trans (HB5.out.mono HM.out.mB.size)) G3.out).mono ?_);rintro e w6 ⟨v6,rfl,ho6,hi6,hb6,hk6⟩;obtain ⟨A6,c6,e6⟩:=Kd.R_slice ho6;subst e6;have HO6:=Aside0.mk ho6;have HI6:=Aside0.mk hi6;have HB6:=Aside0.mk hb6;have HK6:=Aside0.mk hk6;clear ho6 hi6 hb6 hk6)
      | (go_at_call 91;(with_reducible refine (spec_l20Term.calls k g s0_0 p1 8 6 t2 p2 w0 _ HI6.out HB6.out G5.out).mono ?_);rintro e w7 ⟨v7,rfl,ho7,hi7,hb7,hk7⟩;obtain ⟨A7,c7,e7⟩:=Kd.R_slice ho7;subst e7;have HO7:=Aside0.mk ho7;have HI7:=Aside0.mk hi7;have HB7:=Aside0.mk hb7;have HK7:=Aside0.mk hk7;clear ho7 hi7 hb7 hk7)
      | (go_at_call 99;(with_reducible refine (drawn_unify HM.out hgl HWB.out HB5.out HO5.out HO6.out HK6.out HO7.out HI7.out HB7.out HK7.out G7.out).mono ?_);rintro e w8 ⟨v8,rfl,hm8⟩;have HM8:=Aside0.mk hm8;clear hm8))
     go_roundg gk
     case measure=>omega
     case rel=>exact ⟨s,c - 1,p2,by go_num,HM8,G8⟩
    | some x=>
     go_wp2_with (first
      | (go_at_call 87;(with_reducible refine (spec_l2Copy.calls k A3 c3 s s1 _ HSC.out.2.2 HSC.out.2.1 G1.out).mono ?_);rintro e w5 ⟨v5,rfl,ho5,hb5⟩;have HO5:=Aside0.mk ho5;have HB5:=Aside0.mk hb5;clear ho5 hb5)
      | (go_at_call 91;(with_reducible refine (spec_l20Term.calls k g s0_0 p 8 6 t1 p1 w0 _ (HM.out.mI.below HB5.out) (HM.out.mB.trans (HB5.out.mono HM.out.mB.size)) G3.out).mono ?_);rintro e w6 ⟨v6,rfl,ho6,hi6,hb6,hk6⟩;obtain ⟨A6,c6,e6⟩:=Kd.R_slice ho6;subst e6;have HO6:=Aside0.mk ho6;have HI6:=Aside0.mk hi6;have HB6:=Aside0.mk hb6;have HK6:=Aside0.mk hk6;clear ho6 hi6 hb6 hk6)
      | (go_at_call 91;(with_reducible refine (spec_l20Term.calls k g s0_0 p1 8 6 t2 p2 w0 _ HI6.out HB6.out G5.out).mono ?_);rintro e w7 ⟨v7,rfl,ho7,hi7,hb7,hk7⟩;obtain ⟨A7,c7,e7⟩:=Kd.R_slice ho7;subst e7;have HO7:=Aside0.mk ho7;have HI7:=Aside0.mk hi7;have HB7:=Aside0.mk hb7;have HK7:=Aside0.mk hk7;clear ho7 hi7 hb7 hk7)
      | (go_at_call 99;(with_reducible refine (drawn_unify HM.out hgl HWB.out HB5.out HO5.out HO6.out HK6.out HO7.out HI7.out HB7.out HK7.out G7.out).mono ?_);rintro e w8 ⟨v8,rfl,hm8⟩;have HM8:=Aside0.mk hm8;clear hm8))
     go_roundg gk
     case measure=>omega
     case rel=>exact ⟨x,c - 1,p2,by go_num,HM8,G8⟩

/-! ### spec_l20Rd_odd: function 89 -/
def spec_l20Rd_odd.f (k:Nat) (s0_0:List Int) (s0_1:Int) (a1:Int):Option (Bool × Int):=(spec_l20Rd_pick.f k s0_0 s0_1 a1).bind fun bt347=>(some ((bt347.1 == (wrap64 (a1 - 1))),bt347.2))
set_option maxHeartbeats 8000000 in
set_option maxRecDepth 100000 in
theorem spec_l20Rd_odd.calls (k:Nat) (g:Nat) (s0_0:List Int) (s0_1:Int) (a1:Int) (r1:Bool) (r2:Int) (w0 w:World) (hI:IsS102 w0 w g s0_0 s0_1) (hB:Below w0.heap.size w0 w) (h:spec_l20Rd_odd.f k s0_0 s0_1 a1=some (r1,r2)) :
  Calls Tryd.prog 89 #[.pointer (some ⟨g,0,none⟩),.int .i64 a1] w fun e w'=>e = .returned (.bool r1)∧IsS102 w0 w' g s0_0 r2∧Below w0.heap.size w0 w'∧KeepBut w w' g none:=by
 have HI0:=Aside0.mk hI
 have HK:=Aside0.mk (KeepBut.refl w g none)
 have HL:=Aside0.mk hB.size
 clear hI
 have HW0:=Aside0.mk hB.size
 have HB:=Aside0.mk hB
 clear hB
 have H:((spec_l20Rd_pick.f k s0_0 s0_1 a1).bind fun bt347=>(some ((bt347.1 == (wrap64 (a1 - 1))),bt347.2)))=some (r1,r2):=h
 clear h
 replace H:=Option.bind_eq_some_iff.mp H
 obtain ⟨⟨t347,t348⟩,A30,H⟩:=H
 try dsimp only at H
 have A3:=Aside0.mk A30
 clear A30
 simp only [Option.some.injEq,Prod.mk.injEq] at H
 obtain ⟨rfl,rfl⟩:=H
 go_enter Tryd.func89,Tryd.ntmps89
 go_wp2_with (first|(go_at_call 52;(with_reducible refine (spec_l20Rd_pick.calls k g s0_0 s0_1 a1 t347 t348 w0 _ ?side1 ?side2 A3.out).mono ?_);(case side1=>exact qz1);(case side2=>exact qz3);rintro e w4 ⟨rfl,hi,hb,hk⟩;have n0_:=Aside0.mk (KeepBut.trans qz2 hk (.inl rfl));have n1_:=Aside0.mk (hb);have n2_:=Aside0.mk (hi);clear HK HB HI0;have HK:=n0_;have HB:=n1_;have HI0:=n2_;clear n0_ n1_ n2_;(try clear hb);(try clear hb2);(try clear hk);(try clear hi)))
 go_ret
 exact ⟨qz7,qz1,qz3,qz2⟩

end Go.Proofs.YtlaicnoikeieeaaDoor.P
