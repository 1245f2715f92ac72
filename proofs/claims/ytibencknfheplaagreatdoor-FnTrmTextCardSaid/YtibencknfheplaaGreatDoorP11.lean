/- Contracts of functions of the program: each as a Lean function, and that its call does what that says; printed by cprint.py (this session) over print.py of the kit. Conditions: the hypotheses of each theorem. -/
import Derived.Test.YtibencknfheplaaGreatDoorVZ
import Derived.Test.YtibencknfheplaaGreatDoorP0
import Derived.Test.YtibencknfheplaaGreatDoorP1
import Derived.Test.YtibencknfheplaaGreatDoorP5
namespace Go.Proofs.YtibencknfheplaaGreatDoor.P
open Go.RowKit Go.Proofs.YtibencknfheplaaGreatDoorW.PrintWords Go.Proofs.YtibencknfheplaaGreatDoorW.PrintLast Go.Proofs.YtibencknfheplaaGreatDoorW.PrintMore
attribute [local go_sem] max2_int min2_int max_two min_two max_three min_three max_four min_four   -- for this text's walks alone
set_option linter.unusedVariables false
set_option linter.unusedSimpArgs false

attribute [local go_sem high] eqA43
/-! ### laws_caTerm: function 10 -/
def laws_caTerm.l0:Nat→List (S43)→List (S43)→Int→Option (Bool)
 | 0,_,_,_=>none
 | k+1,x0,x1,x5=>if x5<(x0.length:Int) then (if 0≤x5 then (if x5<(x1.length:Int) then (if (!(((rd_T43 x0 x5).f0) == ((rd_T43 x1 x5).f0)) || (!(((rd_T43 x0 x5).f1) == ((rd_T43 x1 x5).f1)) || (!((((rd_T43 x0 x5).f2).toList) == (((rd_T43 x1 x5).f2).toList)))))=true then (some false) else (laws_caTerm.l0 k x0 x1 (wrap64 (x5+1)))) else (none)) else (none)) else (some true)
def laws_caTerm.f (k:Nat) (l0:List (S43)) (l1:List (S43)):Option (Bool):=if (l0.length:Int)=(l1.length:Int) then (laws_caTerm.l0 k l0 l1 0) else (some false)
set_option maxHeartbeats 8000000 in
set_option maxRecDepth 100000 in
theorem laws_caTerm.calls (k:Nat) (A0:Option Addr) (c0:Nat) (l0:List (S43)) (A1:Option Addr) (c1:Nat) (l1:List (S43)) (r:Bool) (w:World) (hr0:Kd.C k43 w A0 l0.length l0) (hc0:l0.length≤c0) (hr1:Kd.C k43 w A1 l1.length l1) (hc1:l1.length≤c1) (h:laws_caTerm.f k l0 l1=some r) :
  Calls Tryz.prog 10 #[.slice A0 l0.length c0,.slice A1 l1.length c1] w fun e w'=>e = .returned (.bool r)∧Drawn0 w w':=by
 have hu43:=Tryz.underlying43
 have HR0:=Aside0.mk hr0
 have HC0:=Aside0.mk hc0
 clear hr0 hc0
 have HR1:=Aside0.mk hr1
 have HC1:=Aside0.mk hc1
 clear hr1 hc1
 have H:(if (l0.length:Int)=(l1.length:Int) then (laws_caTerm.l0 k l0 l1 0) else (some false))=some r:=h
 clear h
 by_cases c3:(l0.length:Int)=(l1.length:Int)
 ·rw [if_pos c3] at H
  have c3b0:((l0.length:Int) == (l1.length:Int))=true:=beq_iff_eq.mpr c3
  have c3b1:((l0.length:Int) != (l1.length:Int))=false:=bne_eq_false_iff_eq.mpr c3
  have c3b2:(l0.length == l1.length)=true:=by first|simpa using c3|(simp at c3 ⊢;omega)
  clear c3
  have H':=Aside0.mk H
  clear H
  go_enter Tryz.func10,Tryz.ntmps10
  go_wp2
  repeat (go_quiet (fail);try go_wp2)
  go_loopg [5] k (fun kq v5 w'=>∃ (x5_1:Int),v5 = .int .i64 x5_1∧Aside0 (laws_caTerm.l0 kq l0 l1 x5_1=some r)∧Aside0 (kq≤k)∧Drawn0 w w')
  case atStart=>exact ⟨(0),qz9,H',⟨Nat.le_refl _⟩,qz25⟩
  case round=>
   clear H'
   try clear c1
   try clear p2
   try clear c3
   try clear c3b0
   try clear c3b1
   try clear c3b2
   obtain ⟨x5_1,rfl,HA,HK1,⟨m1,rfl⟩⟩:=hrel
   cases gk with
   | zero=>exact absurd HA.out (by simp [laws_caTerm.l0])
   | succ k1=>
    have H:=HA.out
    clear HA
    simp only [laws_caTerm.l0] at H
    by_cases c4:x5_1<(l0.length:Int)
    ·rw [if_pos c4] at H
     have c4b0:decide (x5_1<(l0.length:Int))=true:=decide_eq_true c4
     clear c4
     by_cases c5:0≤x5_1
     ·rw [if_pos c5] at H
      have c5b0:decide (0≤x5_1)=true:=decide_eq_true c5
      clear c5
      by_cases c6:x5_1<(l1.length:Int)
      ·rw [if_pos c6] at H
       have c6b0:decide (x5_1<(l1.length:Int))=true:=decide_eq_true c6
       clear c6
       by_cases c7:(!(((rd_T43 l0 x5_1).f0) == ((rd_T43 l1 x5_1).f0)) || (!(((rd_T43 l0 x5_1).f1) == ((rd_T43 l1 x5_1).f1)) || (!((((rd_T43 l0 x5_1).f2).toList) == (((rd_T43 l1 x5_1).f2).toList)))))=true
       ·rw [if_pos c7] at H
        have c7b0:(!(((rd_T43 l0 x5_1).f0) == ((rd_T43 l1 x5_1).f0)) || (!(((rd_T43 l0 x5_1).f1) == ((rd_T43 l1 x5_1).f1)) || (!((((rd_T43 l0 x5_1).f2).toList) == (((rd_T43 l1 x5_1).f2).toList)))))=true:=c7
        clear c7
        obtain rfl:=Option.some.inj H
        have p361:0≤(x5_1:Int):=of_decide_eq_true qz6
        have q361:x5_1<(l0.length:Int):=of_decide_eq_true qz6
        obtain ⟨ad361,e361,hx361_0,hx361_1,hx361_2⟩:=at_T43 HR0.out x5_1 p361 q361
        cases e361
        replace p361:=eq_true p361
        replace q361:=eq_true q361
        have p362:0≤(x5_1:Int):=of_decide_eq_true qz6
        have q362:x5_1<(l1.length:Int):=of_decide_eq_true qz6
        obtain ⟨ad362,e362,hx362_0,hx362_1,hx362_2⟩:=at_T43 HR1.out x5_1 p362 q362
        cases e362
        replace p362:=eq_true p362
        replace q362:=eq_true q362
        go_wp2
        repeat (go_quiet (fail);try go_wp2)
        go_ret
        exact ⟨qz9,qz25⟩
       ·rw [if_neg c7] at H
        have c7b0:(!(((rd_T43 l0 x5_1).f0) == ((rd_T43 l1 x5_1).f0)) || (!(((rd_T43 l0 x5_1).f1) == ((rd_T43 l1 x5_1).f1)) || (!((((rd_T43 l0 x5_1).f2).toList) == (((rd_T43 l1 x5_1).f2).toList)))))=false:=by simpa using c7
        clear c7
        have H':=Aside0.mk H
        clear H
        have p361:0≤(x5_1:Int):=of_decide_eq_true qz6
        have q361:x5_1<(l0.length:Int):=of_decide_eq_true qz6
        obtain ⟨ad361,e361,hx361_0,hx361_1,hx361_2⟩:=at_T43 HR0.out x5_1 p361 q361
        cases e361
        replace p361:=eq_true p361
        replace q361:=eq_true q361
        have p362:0≤(x5_1:Int):=of_decide_eq_true qz6
        have q362:x5_1<(l1.length:Int):=of_decide_eq_true qz6
        obtain ⟨ad362,e362,hx362_0,hx362_1,hx362_2⟩:=at_T43 HR1.out x5_1 p362 q362
        cases e362
        replace p362:=eq_true p362
        replace q362:=eq_true q362
        go_wp2
        repeat (go_quiet (fail);try go_wp2)
        go_roundg k1
        case measure=>have:=HK1.out;omega
        case rel=>exact ⟨(wrap64 (x5_1+1)),qz9,H',⟨by have:=HK1.out;omega⟩,qz25⟩
      ·rw [if_neg c6] at H
       exact absurd H (by simp)
     ·rw [if_neg c5] at H
      exact absurd H (by simp)
    ·rw [if_neg c4] at H
     have c4b0:decide (x5_1<(l0.length:Int))=false:=decide_eq_false c4
     clear c4
     obtain rfl:=Option.some.inj H
     go_wp2
     repeat (go_quiet (fail);try go_wp2)
     go_ret
     exact ⟨qz9,qz25⟩
 ·rw [if_neg c3] at H
  have c3b0:((l0.length:Int) == (l1.length:Int))=false:=beq_eq_false_iff_ne.mpr c3
  have c3b1:((l0.length:Int) != (l1.length:Int))=true:=bne_iff_ne.mpr c3
  have c3b2:(l0.length == l1.length)=false:=by first|simpa using c3|(simp at c3 ⊢;omega)
  obtain rfl:=Option.some.inj H
  go_enter Tryz.func10,Tryz.ntmps10
  go_wp2
  repeat (go_quiet (fail);try go_wp2)
  go_ret
  exact ⟨qz9,qz25⟩

/-! ### laws_caOk: function 13 -/
def laws_caOk.f :Option (Bool):=(impl_TrmOk.f (([(⟨2,1,(⟨#[]⟩:ByteArray)⟩:S43)]:List (S43)))).bind fun t366=>(some t366)
set_option maxHeartbeats 8000000 in
set_option maxRecDepth 100000 in
theorem laws_caOk.calls  (r:Bool) (w:World) (h:laws_caOk.f  = some r) :
  Calls Tryz.prog 13 #[] w fun e w'=>e = .returned (.bool r)∧Below w.heap.size w w':=by
 have hu43:=Tryz.underlying43
 have HB:=Aside0.mk (Below.refl w.heap.size w)
 have H:((impl_TrmOk.f (([(⟨2,1,(⟨#[]⟩:ByteArray)⟩:S43)]:List (S43)))).bind fun t366=>(some t366))=some r:=h
 clear h
 obtain ⟨y363,hy363⟩:∃ y_:List (S43),y_=(([(⟨2,1,(⟨#[]⟩:ByteArray)⟩:S43)]:List (S43))):=⟨_,rfl⟩
 replace H:((impl_TrmOk.f y363).bind fun t366=>(some t366))=some r:=by first|(rw [hy363];exact H)|exact H
 have Ny363:=Aside0.mk hy363
 clear hy363
 replace H:=Option.bind_eq_some_iff.mp H
 obtain ⟨t366,A10,H⟩:=H
 try dsimp only at H
 have A1:=Aside0.mk A10
 clear A10
 obtain rfl:=Option.some.inj H
 go_enter Tryz.func13,Tryz.ntmps13
 go_wp2_with (first|((with_reducible refine gate_dst (N:=2) rfl ?_);refine Kd.R_lit k43 _ 43 ?hg (N:=2) ?hd (xs:=([(⟨2,1,(⟨#[]⟩:ByteArray)⟩:S43)]:List (S43))) (inner:=[.int .i64 2,.int .i64 1,.string (⟨#[]⟩:ByteArray)]) (ok:=fun _=>True) (okp:=fun _=>True) ?hr ?hp (fun _ hk=>hk) trivial (Below.refl _ _) (Nat.le_refl _) (by simp) ?_;(case hd=>rfl);(case hg=>rfl);(case hr=>first|(go_simp;done)|(go_simp;rfl));(case hp=>exact (Reps.c3 (show Kd.M k43 _ _ _ (⟨2,1,(⟨#[]⟩:ByteArray)⟩:S43) [.int .i64 2,.int .i64 1,.string (⟨#[]⟩:ByteArray)] from (k43_mkM _ _ _ (⟨2,1,(⟨#[]⟩:ByteArray)⟩:S43) )) (Reps.none _ _)));intro v364 w2 ho3 hb hg_ hnew_;clear hg_ hnew_;(first|rw [← Ny363.out] at ho3|(simp only [Int.reduceToNat] at ho3;rw [← Ny363.out] at ho3));have n0_:=Aside0.mk (Kd.R_lower ho3 (below_size qz5));have n1_:=Aside0.mk (below_step qz5 hb);clear HB;have HO365:=n0_;have HB:=n1_;clear n0_ n1_ hb ho3;obtain ⟨Ao4,co4,eo4⟩:=Kd.R_slice HO365.out;subst eo4)|((with_reducible refine gate_callee (f:=11) rfl ?_);refine goesL_ (some 3) rfl rfl Tryz.func11 (by kernel_rfl) rfl #[.slice Ao4 y363.length co4] rfl qz4 ?_;(with_reducible refine (impl_TrmOk.calls _ _ y363 t366 _ ?side1 ?side2 A1.out).mono ?_);(case side1=>repeat (first|exact (Kd.R_reads' HO365.out).2.2|(with_reducible refine Kd.C_alloc ?_ _)|(with_reducible refine Kd.C_drewN ?_ _)|(with_reducible refine Kd.C_drew ?_)));(case side2=>exact (Kd.R_reads' HO365.out).2.1);rintro e w5 ⟨rfl,hb⟩;refine ⟨_,rfl,?_⟩;have n0_:=Aside0.mk (Kd.R_below (by (with_reducible repeat (first|apply Kd.R_alloc|apply Kd.R_drewN|apply Kd.R_drew));exact HO365.out) hb);have n1_:=Aside0.mk (below_step qz5 hb);clear HO365 HB;have HO365:=n0_;have HB:=n1_;clear n0_ n1_;(try clear hb);(try clear hb2);(try clear hk);(try clear hi)))
 go_ret
 exact ⟨qz8,qz7⟩

end Go.Proofs.YtibencknfheplaaGreatDoor.P
