/- Contracts of functions of the program: each as a Lean function, and that its call does what that says; printed by cprint.py (this session) over print.py of the kit. Conditions: the hypotheses of each theorem. -/
import Derived.Test.YtibencknfheplaaDoorVZ
import Derived.Test.YtibencknfheplaaDoorP0
import Derived.Test.YtibencknfheplaaDoorP8
namespace Go.Proofs.YtibencknfheplaaDoor.P
open Go.RowKit Go.Proofs.YtibencknfheplaaDoorW.PrintWords Go.Proofs.YtibencknfheplaaDoorW.PrintLast Go.Proofs.YtibencknfheplaaDoorW.PrintMore
attribute [local go_sem] max2_int min2_int max_two min_two max_three min_three max_four min_four   -- for this text's walks alone
set_option linter.unusedVariables false
set_option linter.unusedSimpArgs false

/-! ### spec_l20Spoil: function 45 -/
def spec_l20Spoil.l0:Nat→List (S34)→List Int→Int→Option ((List (S34)) × Int)
 | 0,_,_,_=>none
 | k+1,x5,x1000,x1001=>if (x5.length:Int)≤40 then (if x5.length<4398046511104 then (spec_l20Spoil.l0 k (x5++[(⟨3,1,(⟨#[102]⟩:ByteArray)⟩:S34)]) x1000 x1001) else (none)) else (some (x5,x1001))
def spec_l20Spoil.f (k:Nat) (s0_0:List Int) (s0_1:Int) (l1:List (S34)):Option ((List (S34)) × Int):=(some (([]:List (S34)):List (S34))).bind fun y216=>(if y216.length+l1.length<4398046511104 then ((some (y216++l1:List (S34))).bind fun y219=>((spec_l20Rd_pick.f k s0_0 s0_1 (y219.length:Int)).bind fun bt222=>((spec_l20Rd_pick.f k s0_0 bt222.2 7).bind fun bt224=>(if bt224.1=0 then (if 0≤bt222.1 then (if bt222.1≤(y219.length:Int) then (some ((y219.take (bt222.1:Int).toNat),bt224.2)) else (none)) else (none)) else (if bt224.1=1 then (if 0≤bt222.1 then (if bt222.1<(y219.length:Int) then (if y219.length<4398046511104 then (some ((y219++[(⟨(rd_T34 y219 bt222.1).f0,(rd_T34 y219 bt222.1).f1,(rd_T34 y219 bt222.1).f2⟩:S34)]),bt224.2)) else (none)) else (none)) else (none)) else (if bt224.1=2 then (if 0≤bt222.1 then (if bt222.1<(y219.length:Int) then ((some (([1,(-1),99999,(-99999)]:List Int):List Int)).bind fun y234=>((spec_l20Rd_pick.f k s0_0 bt224.2 4).bind fun bt237=>(if 0≤bt237.1 then (if bt237.1<(y234.length:Int) then (some ((y219.set (bt222.1:Int).toNat (⟨(rd_T34 y219 bt222.1).f0,wrap64 (((rd_T34 y219 bt222.1).f1)+(rd y234 bt237.1)),(rd_T34 y219 bt222.1).f2⟩:S34)),bt237.2)) else (none)) else (none)))) else (none)) else (none)) else (if bt224.1=3 then ((some (([(⟨#[]⟩:ByteArray),(⟨#[116,111,111,108,111,110,103,110,97,109,101]⟩:ByteArray),(⟨#[65]⟩:ByteArray),(⟨#[97]⟩:ByteArray)]:List ByteArray):List ByteArray)).bind fun y241=>((spec_l20Rd_pick.f k s0_0 bt224.2 4).bind fun bt244=>(if 0≤bt244.1 then (if bt244.1<(y241.length:Int) then (if 0≤bt222.1 then (if bt222.1<(y219.length:Int) then (some ((y219.set (bt222.1:Int).toNat (⟨(rd_T34 y219 bt222.1).f0,(rd_T34 y219 bt222.1).f1,rdOf ByteArray.empty y241 bt244.1⟩:S34)),bt244.2)) else (none)) else (none)) else (none)) else (none)))) else (if bt224.1=4 then ((spec_l20Rd_pick.f k s0_0 bt224.2 5).bind fun bt248=>(if 0≤bt222.1 then (if bt222.1<(y219.length:Int) then (some ((y219.set (bt222.1:Int).toNat (⟨bt248.1,(rd_T34 y219 bt222.1).f1,(rd_T34 y219 bt222.1).f2⟩:S34)),bt248.2)) else (none)) else (none))) else (if bt224.1=5 then (spec_l20Spoil.l0 k y219 s0_0 bt224.2) else ((some (([99999,100000,(-1)]:List Int):List Int)).bind fun y254=>((spec_l20Rd_pick.f k s0_0 bt224.2 3).bind fun bt257=>(if 0≤bt257.1 then (if bt257.1<(y254.length:Int) then (if 0≤bt222.1 then (if bt222.1<(y219.length:Int) then (some ((y219.set (bt222.1:Int).toNat (⟨1,rd y254 bt257.1,(⟨#[]⟩:ByteArray)⟩:S34)),bt257.2)) else (none)) else (none)) else (none)) else (none))))))))))))) else (none))
def spec_l20Spoil.T10:Bool × List (List Nat × List Nat):=(true,[([],[]),([],[]),([],[]),([],[]),([2,3],[2,3]),([4],[4]),([5],[5]),([],[]),([],[]),([8],[8]),([7,9],[7,9]),([10],[10]),([6,11],[6,11]),([0,1,0,1,2,3,4,5,6,7,8,9,10,11,12],[0,1]),([13,0,1,2,3,4,5,6,7,8,9,10,11,12],[13]),([14,12,9,0,1,2,3,4,5,6,7,8,9,10,11,12],[12,14])])
def spec_l20Spoil.B10:List Nat:=[0,0,0,0,12,28,60,0,0,256,896,1920,4092,8191,16383,32767]
theorem spec_l20Spoil.tab10:rtab .any (opsOf Tryd.f45 10)=spec_l20Spoil.T10:=by kernel_rfl
theorem spec_l20Spoil.bits10:waitsOk spec_l20Spoil.T10.2 spec_l20Spoil.B10=true:=by kernel_rfl
set_option maxHeartbeats 8000000 in
set_option maxRecDepth 100000 in
theorem spec_l20Spoil.calls (k:Nat) (g:Nat) (s0_0:List Int) (s0_1:Int) (A1:Option Addr) (c1:Nat) (l1:List (S34)) (r1:List (S34)) (r2:Int) (w0 w:World) (hI:IsS77 w0 w g s0_0 s0_1) (hB:Below w0.heap.size w0 w) (hr1:∀ W_,KeepBut w W_ g none→Kd.C k34 W_ A1 l1.length l1) (hc1:l1.length≤c1) (h:spec_l20Spoil.f k s0_0 s0_1 l1=some (r1,r2)) :
  Calls Tryd.prog 45 #[.pointer (some ⟨g,0,none⟩),.slice A1 l1.length c1] w fun e w'=>∃ v0_:Value,e = .returned (v0_)∧Kd.R k34 34 w' w.heap.size (fun _=>True) v0_ r1∧IsS77 w0 w' g s0_0 r2∧Below w0.heap.size w0 w'∧KeepBut w w' g none:=by
 have hu34:=Tryd.underlying34
 have HR1:=Aside0.mk hr1
 have HC1:=Aside0.mk hc1
 clear hr1 hc1
 have HI0:=Aside0.mk hI
 have HK:=Aside0.mk (KeepBut.refl w g none)
 have HL:=Aside0.mk hB.size
 clear hI
 have HW0:=Aside0.mk hB.size
 have HB:=Aside0.mk hB
 clear hB
 have H:((some (([]:List (S34)):List (S34))).bind fun y216=>(if y216.length+l1.length<4398046511104 then ((some (y216++l1:List (S34))).bind fun y219=>((spec_l20Rd_pick.f k s0_0 s0_1 (y219.length:Int)).bind fun bt222=>((spec_l20Rd_pick.f k s0_0 bt222.2 7).bind fun bt224=>(if bt224.1=0 then (if 0≤bt222.1 then (if bt222.1≤(y219.length:Int) then (some ((y219.take (bt222.1:Int).toNat),bt224.2)) else (none)) else (none)) else (if bt224.1=1 then (if 0≤bt222.1 then (if bt222.1<(y219.length:Int) then (if y219.length<4398046511104 then (some ((y219++[(⟨(rd_T34 y219 bt222.1).f0,(rd_T34 y219 bt222.1).f1,(rd_T34 y219 bt222.1).f2⟩:S34)]),bt224.2)) else (none)) else (none)) else (none)) else (if bt224.1=2 then (if 0≤bt222.1 then (if bt222.1<(y219.length:Int) then ((some (([1,(-1),99999,(-99999)]:List Int):List Int)).bind fun y234=>((spec_l20Rd_pick.f k s0_0 bt224.2 4).bind fun bt237=>(if 0≤bt237.1 then (if bt237.1<(y234.length:Int) then (some ((y219.set (bt222.1:Int).toNat (⟨(rd_T34 y219 bt222.1).f0,wrap64 (((rd_T34 y219 bt222.1).f1)+(rd y234 bt237.1)),(rd_T34 y219 bt222.1).f2⟩:S34)),bt237.2)) else (none)) else (none)))) else (none)) else (none)) else (if bt224.1=3 then ((some (([(⟨#[]⟩:ByteArray),(⟨#[116,111,111,108,111,110,103,110,97,109,101]⟩:ByteArray),(⟨#[65]⟩:ByteArray),(⟨#[97]⟩:ByteArray)]:List ByteArray):List ByteArray)).bind fun y241=>((spec_l20Rd_pick.f k s0_0 bt224.2 4).bind fun bt244=>(if 0≤bt244.1 then (if bt244.1<(y241.length:Int) then (if 0≤bt222.1 then (if bt222.1<(y219.length:Int) then (some ((y219.set (bt222.1:Int).toNat (⟨(rd_T34 y219 bt222.1).f0,(rd_T34 y219 bt222.1).f1,rdOf ByteArray.empty y241 bt244.1⟩:S34)),bt244.2)) else (none)) else (none)) else (none)) else (none)))) else (if bt224.1=4 then ((spec_l20Rd_pick.f k s0_0 bt224.2 5).bind fun bt248=>(if 0≤bt222.1 then (if bt222.1<(y219.length:Int) then (some ((y219.set (bt222.1:Int).toNat (⟨bt248.1,(rd_T34 y219 bt222.1).f1,(rd_T34 y219 bt222.1).f2⟩:S34)),bt248.2)) else (none)) else (none))) else (if bt224.1=5 then (spec_l20Spoil.l0 k y219 s0_0 bt224.2) else ((some (([99999,100000,(-1)]:List Int):List Int)).bind fun y254=>((spec_l20Rd_pick.f k s0_0 bt224.2 3).bind fun bt257=>(if 0≤bt257.1 then (if bt257.1<(y254.length:Int) then (if 0≤bt222.1 then (if bt222.1<(y219.length:Int) then (some ((y219.set (bt222.1:Int).toNat (⟨1,rd y254 bt257.1,(⟨#[]⟩:ByteArray)⟩:S34)),bt257.2)) else (none)) else (none)) else (none)) else (none))))))))))))) else (none)))=some (r1,r2):=h
 clear h
 obtain ⟨y216,hy216⟩:∃ y_:List (S34),y_=(([]:List (S34))):=⟨_,rfl⟩
 replace H:(if y216.length+l1.length<4398046511104 then ((some (y216++l1:List (S34))).bind fun y219=>((spec_l20Rd_pick.f k s0_0 s0_1 (y219.length:Int)).bind fun bt222=>((spec_l20Rd_pick.f k s0_0 bt222.2 7).bind fun bt224=>(if bt224.1=0 then (if 0≤bt222.1 then (if bt222.1≤(y219.length:Int) then (some ((y219.take (bt222.1:Int).toNat),bt224.2)) else (none)) else (none)) else (if bt224.1=1 then (if 0≤bt222.1 then (if bt222.1<(y219.length:Int) then (if y219.length<4398046511104 then (some ((y219++[(⟨(rd_T34 y219 bt222.1).f0,(rd_T34 y219 bt222.1).f1,(rd_T34 y219 bt222.1).f2⟩:S34)]),bt224.2)) else (none)) else (none)) else (none)) else (if bt224.1=2 then (if 0≤bt222.1 then (if bt222.1<(y219.length:Int) then ((some (([1,(-1),99999,(-99999)]:List Int):List Int)).bind fun y234=>((spec_l20Rd_pick.f k s0_0 bt224.2 4).bind fun bt237=>(if 0≤bt237.1 then (if bt237.1<(y234.length:Int) then (some ((y219.set (bt222.1:Int).toNat (⟨(rd_T34 y219 bt222.1).f0,wrap64 (((rd_T34 y219 bt222.1).f1)+(rd y234 bt237.1)),(rd_T34 y219 bt222.1).f2⟩:S34)),bt237.2)) else (none)) else (none)))) else (none)) else (none)) else (if bt224.1=3 then ((some (([(⟨#[]⟩:ByteArray),(⟨#[116,111,111,108,111,110,103,110,97,109,101]⟩:ByteArray),(⟨#[65]⟩:ByteArray),(⟨#[97]⟩:ByteArray)]:List ByteArray):List ByteArray)).bind fun y241=>((spec_l20Rd_pick.f k s0_0 bt224.2 4).bind fun bt244=>(if 0≤bt244.1 then (if bt244.1<(y241.length:Int) then (if 0≤bt222.1 then (if bt222.1<(y219.length:Int) then (some ((y219.set (bt222.1:Int).toNat (⟨(rd_T34 y219 bt222.1).f0,(rd_T34 y219 bt222.1).f1,rdOf ByteArray.empty y241 bt244.1⟩:S34)),bt244.2)) else (none)) else (none)) else (none)) else (none)))) else (if bt224.1=4 then ((spec_l20Rd_pick.f k s0_0 bt224.2 5).bind fun bt248=>(if 0≤bt222.1 then (if bt222.1<(y219.length:Int) then (some ((y219.set (bt222.1:Int).toNat (⟨bt248.1,(rd_T34 y219 bt222.1).f1,(rd_T34 y219 bt222.1).f2⟩:S34)),bt248.2)) else (none)) else (none))) else (if bt224.1=5 then (spec_l20Spoil.l0 k y219 s0_0 bt224.2) else ((some (([99999,100000,(-1)]:List Int):List Int)).bind fun y254=>((spec_l20Rd_pick.f k s0_0 bt224.2 3).bind fun bt257=>(if 0≤bt257.1 then (if bt257.1<(y254.length:Int) then (if 0≤bt222.1 then (if bt222.1<(y219.length:Int) then (some ((y219.set (bt222.1:Int).toNat (⟨1,rd y254 bt257.1,(⟨#[]⟩:ByteArray)⟩:S34)),bt257.2)) else (none)) else (none)) else (none)) else (none))))))))))))) else (none))=some (r1,r2):=by first|(rw [hy216];exact H)|exact H
 have Ny216:=Aside0.mk hy216
 clear hy216
 by_cases c3:y216.length+l1.length<4398046511104
 ·rw [if_pos c3] at H
  have LMc3:=Aside0.mk c3
  clear c3
  obtain ⟨y219,hy219⟩:∃ y_:List (S34),y_=(y216++l1):=⟨_,rfl⟩
  replace H:((spec_l20Rd_pick.f k s0_0 s0_1 (y219.length:Int)).bind fun bt222=>((spec_l20Rd_pick.f k s0_0 bt222.2 7).bind fun bt224=>(if bt224.1=0 then (if 0≤bt222.1 then (if bt222.1≤(y219.length:Int) then (some ((y219.take (bt222.1:Int).toNat),bt224.2)) else (none)) else (none)) else (if bt224.1=1 then (if 0≤bt222.1 then (if bt222.1<(y219.length:Int) then (if y219.length<4398046511104 then (some ((y219++[(⟨(rd_T34 y219 bt222.1).f0,(rd_T34 y219 bt222.1).f1,(rd_T34 y219 bt222.1).f2⟩:S34)]),bt224.2)) else (none)) else (none)) else (none)) else (if bt224.1=2 then (if 0≤bt222.1 then (if bt222.1<(y219.length:Int) then ((some (([1,(-1),99999,(-99999)]:List Int):List Int)).bind fun y234=>((spec_l20Rd_pick.f k s0_0 bt224.2 4).bind fun bt237=>(if 0≤bt237.1 then (if bt237.1<(y234.length:Int) then (some ((y219.set (bt222.1:Int).toNat (⟨(rd_T34 y219 bt222.1).f0,wrap64 (((rd_T34 y219 bt222.1).f1)+(rd y234 bt237.1)),(rd_T34 y219 bt222.1).f2⟩:S34)),bt237.2)) else (none)) else (none)))) else (none)) else (none)) else (if bt224.1=3 then ((some (([(⟨#[]⟩:ByteArray),(⟨#[116,111,111,108,111,110,103,110,97,109,101]⟩:ByteArray),(⟨#[65]⟩:ByteArray),(⟨#[97]⟩:ByteArray)]:List ByteArray):List ByteArray)).bind fun y241=>((spec_l20Rd_pick.f k s0_0 bt224.2 4).bind fun bt244=>(if 0≤bt244.1 then (if bt244.1<(y241.length:Int) then (if 0≤bt222.1 then (if bt222.1<(y219.length:Int) then (some ((y219.set (bt222.1:Int).toNat (⟨(rd_T34 y219 bt222.1).f0,(rd_T34 y219 bt222.1).f1,rdOf ByteArray.empty y241 bt244.1⟩:S34)),bt244.2)) else (none)) else (none)) else (none)) else (none)))) else (if bt224.1=4 then ((spec_l20Rd_pick.f k s0_0 bt224.2 5).bind fun bt248=>(if 0≤bt222.1 then (if bt222.1<(y219.length:Int) then (some ((y219.set (bt222.1:Int).toNat (⟨bt248.1,(rd_T34 y219 bt222.1).f1,(rd_T34 y219 bt222.1).f2⟩:S34)),bt248.2)) else (none)) else (none))) else (if bt224.1=5 then (spec_l20Spoil.l0 k y219 s0_0 bt224.2) else ((some (([99999,100000,(-1)]:List Int):List Int)).bind fun y254=>((spec_l20Rd_pick.f k s0_0 bt224.2 3).bind fun bt257=>(if 0≤bt257.1 then (if bt257.1<(y254.length:Int) then (if 0≤bt222.1 then (if bt222.1<(y219.length:Int) then (some ((y219.set (bt222.1:Int).toNat (⟨1,rd y254 bt257.1,(⟨#[]⟩:ByteArray)⟩:S34)),bt257.2)) else (none)) else (none)) else (none)) else (none))))))))))))=some (r1,r2):=by first|(rw [hy219];exact H)|exact H
  have Ny219:=Aside0.mk hy219
  clear hy219
  replace H:=Option.bind_eq_some_iff.mp H
  obtain ⟨⟨t222,t223⟩,A40,H⟩:=H
  try dsimp only at H
  have A4:=Aside0.mk A40
  clear A40
  replace H:=Option.bind_eq_some_iff.mp H
  obtain ⟨⟨t224,t225⟩,A50,H⟩:=H
  try dsimp only at H
  have A5:=Aside0.mk A50
  clear A50
  by_cases c6:t224=0
  ·rw [if_pos c6] at H
   have c6b0:(t224 == 0)=true:=beq_iff_eq.mpr c6
   have c6b1:(t224 != 0)=false:=bne_eq_false_iff_eq.mpr c6
   clear c6
   by_cases c7:0≤t222
   ·rw [if_pos c7] at H
    have c7b0:=eq_true c7
    have c7b1:decide (0≤t222)=true:=decide_eq_true c7
    clear c7
    by_cases c8:t222≤(y219.length:Int)
    ·rw [if_pos c8] at H
     have c8b0:=eq_true c8
     have c8b1:decide (t222≤(y219.length:Int))=true:=decide_eq_true c8
     clear c8
     obtain ⟨y226,hy226⟩:∃ y_:List (S34),y_=(y219.take (t222:Int).toNat):=⟨_,rfl⟩
     replace H:(some (y226,t225))=some (r1,r2):=by first|(rw [hy226];exact H)|exact H
     have Ny226:=Aside0.mk hy226
     clear hy226
     simp only [Option.some.injEq,Prod.mk.injEq] at H
     obtain ⟨rfl,rfl⟩:=H
     go_enter Tryd.func45,Tryd.ntmps45
     go_wp2_with (first|((with_reducible refine gate_dst (N:=7) rfl ?_);refine Kd.R_lit k34 _ 34 ?hg (N:=7) ?hd (xs:=([]:List (S34))) (inner:=[]) (ok:=fun _=>True) (okp:=fun _=>True) ?hr ?hp (fun _ hk=>hk) trivial (Below.refl _ _) (Nat.le_refl _) (by simp) ?_;(case hd=>rfl);(case hg=>rfl);(case hr=>first|(go_simp;done)|(go_simp;rfl));(case hp=>exact (Reps.none _ _));intro v217 w9 ho10 hb hg_ hnew_;clear hg_ hnew_;(first|rw [← Ny216.out] at ho10|(simp only [Int.reduceToNat] at ho10;rw [← Ny216.out] at ho10));have n0_:=Aside0.mk (Kd.R_lower ho10 (keep_size (w:=w) (g:=g) (row:=none) qz2));have n1_:=Aside0.mk (IsS77.below qz1 hb);have n2_:=Aside0.mk (KeepBut.trans qz2 (KeepBut.of_below hb g none) (.inl rfl));have n3_:=Aside0.mk (below_step qz3 hb);clear HI0 HK HB;have HO218:=n0_;have HI0:=n1_;have HK:=n2_;have HB:=n3_;clear n0_ n1_ n2_ n3_ hb ho10)|((with_reducible refine gate_builtin (b:=.append) (xs:=#[.tmp 7,.tmp 8]) rfl ?_);at_builtin;refine Kd.R_append_rows k34 w.heap.size rfl (.tmp 7) (.tmp 8) 25 34 (.agg #[(.int .i64 0),(.int .i64 0),(.string ⟨#[]⟩)]) 32 rfl Tryd.underlying25 info34 rfl (by decide) (by omega) v217 y216 l1 _ _ _ (fun _=>True) (fun _=>False) rfl rfl ?aO ?aR (fun _ _ h=>h) (fun _ h=>h.elim) ?aF (Below.refl _ _) ?aS ?aL ?_;(case aR=>exact Kd.C_foot_now HR1.out qz2);(case aF=>exact (fun _ _=>trivial));(case aO=>exact qz32);(case aS=>exact (keep_size (w:=w) (g:=g) (row:=none) qz2));(case aL=>have:=LMc3.out;omega);intro v220 w11 ho hb hg hat;rw [← Ny219.out] at ho;have n0_:=Aside0.mk (IsS77.grown qz1 hg (IsS77.own_ne HI0.out HO218.out (by decide)));have n1_:=Aside0.mk (below_weaken qz3 HL.out hb);have n2_:=Aside0.mk (KeepBut.trans qz2 (KeepBut.of_grown hg g) (Kd.R_base2 HO218.out));have n3_:=Aside0.mk (ho);clear HI0 HB HK HO218;have HI0:=n0_;have HB:=n1_;have HK:=n2_;have HO221:=n3_;clear n0_ n1_ n2_ n3_ ho hb hg hat;obtain ⟨Ao12,co12,eo12⟩:=Kd.R_slice HO221.out;subst eo12)|((with_reducible refine gate_callee (f:=43) rfl ?_);refine goesL_ (some 13) rfl rfl Tryd.func43 (by kernel_rfl) rfl #[.pointer (some ⟨g,0,none⟩),.int .i64 (y219.length:Int)] rfl qz5 ?_;(with_reducible refine (spec_l20Rd_pick.calls k g s0_0 s0_1 (y219.length:Int) t222 t223 w0 _ ?side1 ?side2 A4.out).mono ?_);(case side1=>exact qz1);(case side2=>exact qz3);rintro e w13 ⟨rfl,hi,hb,hk⟩;refine ⟨_,rfl,?_⟩;have n0_:=Aside0.mk (Kd.R_mono (Kd.R_keep (IsS77.apart (show IsS77 w0 _ g s0_0 s0_1 from qz1) qz9 (by decide)) hk (fun _ h=>h.2)) (fun _ h=>h.1));have n1_:=Aside0.mk (KeepBut.trans qz2 hk (.inl rfl));have n2_:=Aside0.mk (hb);have n3_:=Aside0.mk (hi);clear HO221 HK HB HI0;have HO221:=n0_;have HK:=n1_;have HB:=n2_;have HI0:=n3_;clear n0_ n1_ n2_ n3_;(try clear hb);(try clear hb2);(try clear hk);(try clear hi))|((with_reducible refine gate_callee (f:=43) rfl ?_);refine goesL_ (some 15) rfl rfl Tryd.func43 (by kernel_rfl) rfl #[.pointer (some ⟨g,0,none⟩),.int .i64 7] rfl qz5 ?_;(with_reducible refine (spec_l20Rd_pick.calls k g s0_0 t223 7 t224 t225 w0 _ ?side1 ?side2 A5.out).mono ?_);(case side1=>exact qz1);(case side2=>exact qz3);rintro e w14 ⟨rfl,hi,hb,hk⟩;refine ⟨_,rfl,?_⟩;have n0_:=Aside0.mk (Kd.R_mono (Kd.R_keep (IsS77.apart (show IsS77 w0 _ g s0_0 t223 from qz1) qz9 (by decide)) hk (fun _ h=>h.2)) (fun _ h=>h.1));have n1_:=Aside0.mk (KeepBut.trans qz2 hk (.inl rfl));have n2_:=Aside0.mk (hb);have n3_:=Aside0.mk (hi);clear HO221 HK HB HI0;have HO221:=n0_;have HK:=n1_;have HB:=n2_;have HI0:=n3_;clear n0_ n1_ n2_ n3_;(try clear hb);(try clear hb2);(try clear hk);(try clear hi);have q15:(t222:Int)≤((y219.length:Int):Int):=of_decide_eq_true qz6;obtain ⟨i015,hi015,_,hsz15,_⟩:=info_parts info34;have hcut15:=cut_to (P:=Tryd.prog) 25 34 .i64 Tryd.underlying25 hi015 Ao12 y219.length co12 t222 (of_decide_eq_true qz6) q15 (Kd.R_reads' HO221.out).2.1;have hr15:=Kd.R_take (m:=(t222:Int).toNat) HO221.out (by omega);have hy15:y226.length=(t222:Int).toNat:=(by rw [Ny226.out,List.length_take];omega);rw [← Ny226.out] at hr15;rw [← hy15] at hr15 hcut15;clear hy15 hi015 hsz15 HO221;have HO228:=Aside0.mk hr15;clear hr15;replace q15:=eq_true q15))
     go_ret
     exact ⟨_,qz8,by (with_reducible repeat (first|apply Kd.R_alloc|apply Kd.R_drewN|apply Kd.R_drew));exact HO228.out,qz1,qz3,qz2⟩
    ·rw [if_neg c8] at H
     exact absurd H (by simp)
   ·rw [if_neg c7] at H
    exact absurd H (by simp)
  ·rw [if_neg c6] at H
   have c6b0:(t224 == 0)=false:=beq_eq_false_iff_ne.mpr c6
   have c6b1:(t224 != 0)=true:=bne_iff_ne.mpr c6
   by_cases c16:t224=1
   ·rw [if_pos c16] at H
    have c16b0:(t224 == 1)=true:=beq_iff_eq.mpr c16
    have c16b1:(t224 != 1)=false:=bne_eq_false_iff_eq.mpr c16
    clear c16
    by_cases c17:0≤t222
    ·rw [if_pos c17] at H
     have c17b0:decide (0≤t222)=true:=decide_eq_true c17
     clear c17
     by_cases c18:t222<(y219.length:Int)
     ·rw [if_pos c18] at H
      have c18b0:decide (t222<(y219.length:Int))=true:=decide_eq_true c18
      clear c18
      by_cases c19:y219.length<4398046511104
      ·rw [if_pos c19] at H
       have LMc19:=Aside0.mk c19
       clear c19
       obtain ⟨y230,hy230⟩:∃ y_:List (S34),y_=(y219++[(⟨(rd_T34 y219 t222).f0,(rd_T34 y219 t222).f1,(rd_T34 y219 t222).f2⟩:S34)]):=⟨_,rfl⟩
       replace H:(some (y230,t225))=some (r1,r2):=by first|(rw [hy230];exact H)|exact H
       have Ny230:=Aside0.mk hy230
       clear hy230
       simp only [Option.some.injEq,Prod.mk.injEq] at H
       obtain ⟨rfl,rfl⟩:=H
       go_enter Tryd.func45,Tryd.ntmps45
       go_wp2_with (first|((with_reducible refine gate_dst (N:=7) rfl ?_);refine Kd.R_lit k34 _ 34 ?hg (N:=7) ?hd (xs:=([]:List (S34))) (inner:=[]) (ok:=fun _=>True) (okp:=fun _=>True) ?hr ?hp (fun _ hk=>hk) trivial (Below.refl _ _) (Nat.le_refl _) (by simp) ?_;(case hd=>rfl);(case hg=>rfl);(case hr=>first|(go_simp;done)|(go_simp;rfl));(case hp=>exact (Reps.none _ _));intro v217 w20 ho21 hb hg_ hnew_;clear hg_ hnew_;(first|rw [← Ny216.out] at ho21|(simp only [Int.reduceToNat] at ho21;rw [← Ny216.out] at ho21));have n0_:=Aside0.mk (Kd.R_lower ho21 (keep_size (w:=w) (g:=g) (row:=none) qz2));have n1_:=Aside0.mk (IsS77.below qz1 hb);have n2_:=Aside0.mk (KeepBut.trans qz2 (KeepBut.of_below hb g none) (.inl rfl));have n3_:=Aside0.mk (below_step qz3 hb);clear HI0 HK HB;have HO218:=n0_;have HI0:=n1_;have HK:=n2_;have HB:=n3_;clear n0_ n1_ n2_ n3_ hb ho21)|((with_reducible refine gate_builtin (b:=.append) (xs:=#[.tmp 7,.tmp 8]) rfl ?_);at_builtin;refine Kd.R_append_rows k34 w.heap.size rfl (.tmp 7) (.tmp 8) 25 34 (.agg #[(.int .i64 0),(.int .i64 0),(.string ⟨#[]⟩)]) 32 rfl Tryd.underlying25 info34 rfl (by decide) (by omega) v217 y216 l1 _ _ _ (fun _=>True) (fun _=>False) rfl rfl ?aO ?aR (fun _ _ h=>h) (fun _ h=>h.elim) ?aF (Below.refl _ _) ?aS ?aL ?_;(case aR=>exact Kd.C_foot_now HR1.out qz2);(case aF=>exact (fun _ _=>trivial));(case aO=>exact qz32);(case aS=>exact (keep_size (w:=w) (g:=g) (row:=none) qz2));(case aL=>have:=LMc3.out;omega);intro v220 w22 ho hb hg hat;rw [← Ny219.out] at ho;have n0_:=Aside0.mk (IsS77.grown qz1 hg (IsS77.own_ne HI0.out HO218.out (by decide)));have n1_:=Aside0.mk (below_weaken qz3 HL.out hb);have n2_:=Aside0.mk (KeepBut.trans qz2 (KeepBut.of_grown hg g) (Kd.R_base2 HO218.out));have n3_:=Aside0.mk (ho);clear HI0 HB HK HO218;have HI0:=n0_;have HB:=n1_;have HK:=n2_;have HO221:=n3_;clear n0_ n1_ n2_ n3_ ho hb hg hat;obtain ⟨Ao23,co23,eo23⟩:=Kd.R_slice HO221.out;subst eo23)|((with_reducible refine gate_callee (f:=43) rfl ?_);refine goesL_ (some 13) rfl rfl Tryd.func43 (by kernel_rfl) rfl #[.pointer (some ⟨g,0,none⟩),.int .i64 (y219.length:Int)] rfl qz5 ?_;(with_reducible refine (spec_l20Rd_pick.calls k g s0_0 s0_1 (y219.length:Int) t222 t223 w0 _ ?side1 ?side2 A4.out).mono ?_);(case side1=>exact qz1);(case side2=>exact qz3);rintro e w24 ⟨rfl,hi,hb,hk⟩;refine ⟨_,rfl,?_⟩;have n0_:=Aside0.mk (Kd.R_mono (Kd.R_keep (IsS77.apart (show IsS77 w0 _ g s0_0 s0_1 from qz1) qz9 (by decide)) hk (fun _ h=>h.2)) (fun _ h=>h.1));have n1_:=Aside0.mk (KeepBut.trans qz2 hk (.inl rfl));have n2_:=Aside0.mk (hb);have n3_:=Aside0.mk (hi);clear HO221 HK HB HI0;have HO221:=n0_;have HK:=n1_;have HB:=n2_;have HI0:=n3_;clear n0_ n1_ n2_ n3_;(try clear hb);(try clear hb2);(try clear hk);(try clear hi))|((with_reducible refine gate_callee (f:=43) rfl ?_);refine goesL_ (some 15) rfl rfl Tryd.func43 (by kernel_rfl) rfl #[.pointer (some ⟨g,0,none⟩),.int .i64 7] rfl qz5 ?_;(with_reducible refine (spec_l20Rd_pick.calls k g s0_0 t223 7 t224 t225 w0 _ ?side1 ?side2 A5.out).mono ?_);(case side1=>exact qz1);(case side2=>exact qz3);rintro e w25 ⟨rfl,hi,hb,hk⟩;refine ⟨_,rfl,?_⟩;have n0_:=Aside0.mk (Kd.R_mono (Kd.R_keep (IsS77.apart (show IsS77 w0 _ g s0_0 t223 from qz1) qz9 (by decide)) hk (fun _ h=>h.2)) (fun _ h=>h.1));have n1_:=Aside0.mk (KeepBut.trans qz2 hk (.inl rfl));have n2_:=Aside0.mk (hb);have n3_:=Aside0.mk (hi);clear HO221 HK HB HI0;have HO221:=n0_;have HK:=n1_;have HB:=n2_;have HI0:=n3_;clear n0_ n1_ n2_ n3_;(try clear hb);(try clear hb2);(try clear hk);(try clear hi);have p229:0≤(t222:Int):=of_decide_eq_true qz6;have q229:t222<(y219.length:Int):=of_decide_eq_true qz6;obtain ⟨ad229,e229,hx229_0,hx229_1,hx229_2⟩:=at_T34 (Kd.R_reads' HO221.out).2.2 t222 p229 q229;cases e229;replace p229:=eq_true p229;replace q229:=eq_true q229)|((with_reducible refine gate_builtin (b:=.append) (xs:=#[.tmp 32,.tmp 37]) rfl ?_);at_builtin;refine Kd.R_append k34 w.heap.size rfl (.tmp 32) (.tmp 37) 25 34 (.agg #[(.int .i64 0),(.int .i64 0),(.string ⟨#[]⟩)]) 32 rfl Tryd.underlying25 info34 rfl (by decide) (by omega) (.slice (some ad229) y219.length co23) y219 (⟨(rd_T34 y219 t222).f0,(rd_T34 y219 t222).f1,(rd_T34 y219 t222).f2⟩:S34) [.int .i64 ((rd_T34 y219 t222).f0),.int .i64 ((rd_T34 y219 t222).f1),.string ((rd_T34 y219 t222).f2)] (fun _=>True) (fun _=>False) rfl rfl ?aP (fun _ hk=>hk.elim) ?aF ?aO (Below.refl _ _) ?aS ?aL ?_;(case aP=>exact k34_mkM _ _ _ (⟨(rd_T34 y219 t222).f0,(rd_T34 y219 t222).f1,(rd_T34 y219 t222).f2⟩:S34));(case aF=>exact (fun _ _=>trivial));(case aO=>exact qz9);(case aS=>exact (keep_size (w:=w) (g:=g) (row:=none) qz2));(case aL=>have:=LMc19.out;omega);intro v231 w26 ho hb hg hat;rw [← Ny230.out] at ho;have n0_:=Aside0.mk (IsS77.grown qz1 hg (IsS77.own_ne HI0.out HO221.out (by decide)));have n1_:=Aside0.mk (below_weaken qz3 HL.out hb);have n2_:=Aside0.mk (KeepBut.trans qz2 (KeepBut.of_grown hg g) (Kd.R_base2 HO221.out));have n3_:=Aside0.mk (ho);clear HI0 HB HK HO221;have HI0:=n0_;have HB:=n1_;have HK:=n2_;have HO232:=n3_;clear n0_ n1_ n2_ n3_ ho hb hg hat))
       go_ret
       exact ⟨_,qz8,by (with_reducible repeat (first|apply Kd.R_alloc|apply Kd.R_drewN|apply Kd.R_drew));exact HO232.out,qz1,qz3,qz2⟩
      ·rw [if_neg c19] at H
       exact absurd H (by simp)
     ·rw [if_neg c18] at H
      exact absurd H (by simp)
    ·rw [if_neg c17] at H
     exact absurd H (by simp)
   ·rw [if_neg c16] at H
    have c16b0:(t224 == 1)=false:=beq_eq_false_iff_ne.mpr c16
    have c16b1:(t224 != 1)=true:=bne_iff_ne.mpr c16
    by_cases c27:t224=2
    ·rw [if_pos c27] at H
     have c27b0:(t224 == 2)=true:=beq_iff_eq.mpr c27
     have c27b1:(t224 != 2)=false:=bne_eq_false_iff_eq.mpr c27
     clear c27
     by_cases c28:0≤t222
     ·rw [if_pos c28] at H
      have c28b0:decide (0≤t222)=true:=decide_eq_true c28
      clear c28
      by_cases c29:t222<(y219.length:Int)
      ·rw [if_pos c29] at H
       have c29b0:decide (t222<(y219.length:Int))=true:=decide_eq_true c29
       clear c29
       obtain ⟨y234,hy234⟩:∃ y_:List Int,y_=(([1,(-1),99999,(-99999)]:List Int)):=⟨_,rfl⟩
       replace H:((spec_l20Rd_pick.f k s0_0 t225 4).bind fun bt237=>(if 0≤bt237.1 then (if bt237.1<(y234.length:Int) then (some ((y219.set (t222:Int).toNat (⟨(rd_T34 y219 t222).f0,wrap64 (((rd_T34 y219 t222).f1)+(rd y234 bt237.1)),(rd_T34 y219 t222).f2⟩:S34)),bt237.2)) else (none)) else (none)))=some (r1,r2):=by first|(rw [hy234];exact H)|exact H
       have Ny234:=Aside0.mk hy234
       clear hy234
       replace H:=Option.bind_eq_some_iff.mp H
       obtain ⟨⟨t237,t238⟩,A300,H⟩:=H
       try dsimp only at H
       have A30:=Aside0.mk A300
       clear A300
       by_cases c31:0≤t237
       ·rw [if_pos c31] at H
        have c31b0:decide (0≤t237)=true:=decide_eq_true c31
        clear c31
        by_cases c32:t237<(y234.length:Int)
        ·rw [if_pos c32] at H
         have c32b0:decide (t237<(y234.length:Int))=true:=decide_eq_true c32
         clear c32
         obtain ⟨y240,hy240⟩:∃ y_:List (S34),y_=(y219.set (t222:Int).toNat (⟨(rd_T34 y219 t222).f0,wrap64 (((rd_T34 y219 t222).f1)+(rd y234 t237)),(rd_T34 y219 t222).f2⟩:S34)):=⟨_,rfl⟩
         replace H:(some (y240,t238))=some (r1,r2):=by first|(rw [hy240];exact H)|exact H
         have Ny240:=Aside0.mk hy240
         clear hy240
         simp only [Option.some.injEq,Prod.mk.injEq] at H
         obtain ⟨rfl,rfl⟩:=H
         go_enter Tryd.func45,Tryd.ntmps45
         try go_wp2_with (first|((with_reducible refine gate_dst (N:=7) rfl ?_);refine Kd.R_lit k34 _ 34 ?hg (N:=7) ?hd (xs:=([]:List (S34))) (inner:=[]) (ok:=fun _=>True) (okp:=fun _=>True) ?hr ?hp (fun _ hk=>hk) trivial (Below.refl _ _) (Nat.le_refl _) (by simp) ?_;(case hd=>rfl);(case hg=>rfl);(case hr=>first|(go_simp;done)|(go_simp;rfl));(case hp=>exact (Reps.none _ _));intro v217 w34 ho35 hb hg_ hnew_;clear hg_ hnew_;(first|rw [← Ny216.out] at ho35|(simp only [Int.reduceToNat] at ho35;rw [← Ny216.out] at ho35));have n0_:=Aside0.mk (Kd.R_lower ho35 (keep_size (w:=w) (g:=g) (row:=none) qz2));have n1_:=Aside0.mk (IsS77.below qz1 hb);have n2_:=Aside0.mk (KeepBut.trans qz2 (KeepBut.of_below hb g none) (.inl rfl));have n3_:=Aside0.mk (below_step qz3 hb);clear HI0 HK HB;have HO218:=n0_;have HI0:=n1_;have HK:=n2_;have HB:=n3_;clear n0_ n1_ n2_ n3_ hb ho35)|((with_reducible refine gate_builtin (b:=.append) (xs:=#[.tmp 7,.tmp 8]) rfl ?_);at_builtin;refine Kd.R_append_rows k34 w.heap.size rfl (.tmp 7) (.tmp 8) 25 34 (.agg #[(.int .i64 0),(.int .i64 0),(.string ⟨#[]⟩)]) 32 rfl Tryd.underlying25 info34 rfl (by decide) (by omega) v217 y216 l1 _ _ _ (fun _=>True) (fun _=>False) rfl rfl ?aO ?aR (fun _ _ h=>h) (fun _ h=>h.elim) ?aF (Below.refl _ _) ?aS ?aL ?_;(case aR=>exact Kd.C_foot_now HR1.out qz2);(case aF=>exact (fun _ _=>trivial));(case aO=>exact qz32);(case aS=>exact (keep_size (w:=w) (g:=g) (row:=none) qz2));(case aL=>have:=LMc3.out;omega);intro v220 w36 ho hb hg hat;rw [← Ny219.out] at ho;have n0_:=Aside0.mk (IsS77.grown qz1 hg (IsS77.own_ne HI0.out HO218.out (by decide)));have n1_:=Aside0.mk (below_weaken qz3 HL.out hb);have n2_:=Aside0.mk (KeepBut.trans qz2 (KeepBut.of_grown hg g) (Kd.R_base2 HO218.out));have n3_:=Aside0.mk (ho);clear HI0 HB HK HO218;have HI0:=n0_;have HB:=n1_;have HK:=n2_;have HO221:=n3_;clear n0_ n1_ n2_ n3_ ho hb hg hat;obtain ⟨Ao37,co37,eo37⟩:=Kd.R_slice HO221.out;subst eo37)|((with_reducible refine gate_callee (f:=43) rfl ?_);refine goesL_ (some 13) rfl rfl Tryd.func43 (by kernel_rfl) rfl #[.pointer (some ⟨g,0,none⟩),.int .i64 (y219.length:Int)] rfl qz5 ?_;(with_reducible refine (spec_l20Rd_pick.calls k g s0_0 s0_1 (y219.length:Int) t222 t223 w0 _ ?side1 ?side2 A4.out).mono ?_);(case side1=>exact qz1);(case side2=>exact qz3);rintro e w38 ⟨rfl,hi,hb,hk⟩;refine ⟨_,rfl,?_⟩;have n0_:=Aside0.mk (Kd.R_mono (Kd.R_keep (IsS77.apart (show IsS77 w0 _ g s0_0 s0_1 from qz1) qz9 (by decide)) hk (fun _ h=>h.2)) (fun _ h=>h.1));have n1_:=Aside0.mk (KeepBut.trans qz2 hk (.inl rfl));have n2_:=Aside0.mk (hb);have n3_:=Aside0.mk (hi);clear HO221 HK HB HI0;have HO221:=n0_;have HK:=n1_;have HB:=n2_;have HI0:=n3_;clear n0_ n1_ n2_ n3_;(try clear hb);(try clear hb2);(try clear hk);(try clear hi))|((with_reducible refine gate_callee (f:=43) rfl ?_);refine goesL_ (some 15) rfl rfl Tryd.func43 (by kernel_rfl) rfl #[.pointer (some ⟨g,0,none⟩),.int .i64 7] rfl qz5 ?_;(with_reducible refine (spec_l20Rd_pick.calls k g s0_0 t223 7 t224 t225 w0 _ ?side1 ?side2 A5.out).mono ?_);(case side1=>exact qz1);(case side2=>exact qz3);rintro e w39 ⟨rfl,hi,hb,hk⟩;refine ⟨_,rfl,?_⟩;have n0_:=Aside0.mk (Kd.R_mono (Kd.R_keep (IsS77.apart (show IsS77 w0 _ g s0_0 t223 from qz1) qz9 (by decide)) hk (fun _ h=>h.2)) (fun _ h=>h.1));have n1_:=Aside0.mk (KeepBut.trans qz2 hk (.inl rfl));have n2_:=Aside0.mk (hb);have n3_:=Aside0.mk (hi);clear HO221 HK HB HI0;have HO221:=n0_;have HK:=n1_;have HB:=n2_;have HI0:=n3_;clear n0_ n1_ n2_ n3_;(try clear hb);(try clear hb2);(try clear hk);(try clear hi)))
         have pi239:(0≤(t237:Int))=True:=eq_true (of_decide_eq_true qz6)
         have qi239:(t237<(y234.length:Int))=True:=eq_true (of_decide_eq_true qz6)
         have n0_:=Aside0.mk (Kd.R_drew HO221.out)
         have n1_:=Aside0.mk (IsS77.drew HI0.out)
         have n2_:=Aside0.mk (keep_drew HK.out)
         have n3_:=Aside0.mk (below_drew1 HB.out)
         clear HO221 HI0 HK HB
         have HO221:=n0_
         have HI0:=n1_
         have HK:=n2_
         have HB:=n3_
         clear n0_ n1_ n2_ n3_
         have p233:0≤(t222:Int):=of_decide_eq_true qz6
         have q233:t222<(y219.length:Int):=of_decide_eq_true qz6
         obtain ⟨ad233,e233,hx233_0,hx233_1,hx233_2⟩:=at_T34 (Kd.R_reads' HO221.out).2.2 t222 p233 q233
         cases e233
         replace p233:=eq_true p233
         replace q233:=eq_true q233
         refine start_ (n:=16) (S:=fun w'=>w'.cell? (ad233.add ((t222).toNat * 3))=some (.int .i64 ((rd_T34 y219 t222).f0))∧w'.cell? ⟨(ad233.add ((t222).toNat * 3)).block,(ad233.add ((t222).toNat * 3)).off+1,none⟩=some (.int .i64 ((rd_T34 y219 t222).f1))∧w'.cell? ⟨(ad233.add ((t222).toNat * 3)).block,(ad233.add ((t222).toNat * 3)).off+2,none⟩=some (.string ((rd_T34 y219 t222).f2))) (ds:=[15]) #[false,false,false,false,false,false,false,false,false,false,false,false,false,false,false,false] (by kernel_rfl) rfl rfl ⟨hx233_0,hx233_1,hx233_2⟩ (fun hHeld=>?_);refine with_tabW spec_l20Spoil.tab10 spec_l20Spoil.bits10 (fun HT_ HW_=>?_)
         generalize w39.drew=w40 at HO221 HI0 HK HB hx233_0 hx233_1 hx233_2 hHeld ⊢
         refine pure_ (i:=0) (N:=some 41) (v:=?_) (a':=?_) #[true,false,false,false,false,false,false,false,false,false,false,false,false,false,false,false] rfl rfl (any_of HT_.out (by kernel_rfl)) (fun _ _ _ h=>h) (Or.inl ⟨by rfl,?_⟩) ?_ ?_
         rotate_left
         ·intro w'
          go_simp
          with_reducible rfl
         rotate_left
         ·simp only [Act.put,List.setIfInBounds_toArray,List.set_cons_zero,List.set_cons_succ,i64_w,i32_w]
          rfl
         refine pure_ (i:=1) (N:=some 42) (v:=?_) (a':=?_) #[true,true,false,false,false,false,false,false,false,false,false,false,false,false,false,false] rfl rfl (any_of HT_.out (by kernel_rfl)) (fun _ _ _ h=>h) (Or.inl ⟨by rfl,?_⟩) ?_ ?_
         rotate_left
         ·intro w'
          go_simp
          with_reducible rfl
         rotate_left
         ·simp only [Act.put,List.setIfInBounds_toArray,List.set_cons_zero,List.set_cons_succ,i64_w,i32_w]
          rfl
         refine pure_ (i:=2) (N:=some 43) (v:=?_) (a':=?_) #[true,true,true,false,false,false,false,false,false,false,false,false,false,false,false,false] rfl rfl (any_of HT_.out (by kernel_rfl)) (fun _ _ _ h=>h) (Or.inl ⟨by rfl,?_⟩) ?_ ?_
         rotate_left
         ·intro w'
          go_simp
          with_reducible rfl
         rotate_left
         ·simp only [Act.put,List.setIfInBounds_toArray,List.set_cons_zero,List.set_cons_succ,i64_w,i32_w]
          rfl
         refine pure_ (i:=3) (N:=some 44) (v:=?_) (a':=?_) #[true,true,true,true,false,false,false,false,false,false,false,false,false,false,false,false] rfl rfl (any_of HT_.out (by kernel_rfl)) (fun _ _ _ h=>h) (Or.inl ⟨by rfl,?_⟩) ?_ ?_
         rotate_left
         ·intro w'
          go_simp
          with_reducible rfl
         rotate_left
         ·simp only [Act.put,List.setIfInBounds_toArray,List.set_cons_zero,List.set_cons_succ,i64_w,i32_w]
          rfl
         refine pure_ (i:=4) (N:=some 45) (v:=?_) (a':=?_) #[true,true,true,true,true,false,false,false,false,false,false,false,false,false,false,false] rfl rfl (any_of HT_.out (by kernel_rfl)) (fun _ _ _ h=>h) (Or.inl ⟨by rfl,?_⟩) ?_ ?_
         rotate_left
         ·intro w'
          go_simp
          with_reducible rfl
         rotate_left
         ·simp only [Act.put,List.setIfInBounds_toArray,List.set_cons_zero,List.set_cons_succ,i64_w,i32_w]
          rfl
         refine pure_ (i:=5) (N:=some 46) (v:=?_) (a':=?_) #[true,true,true,true,true,true,false,false,false,false,false,false,false,false,false,false] rfl rfl (any_of HT_.out (by kernel_rfl)) (fun _ _ _ h=>h) (Or.inl ⟨by rfl,?_⟩) ?_ ?_
         rotate_left
         ·intro w'
          go_simp
          with_reducible rfl
         rotate_left
         ·simp only [Act.put,List.setIfInBounds_toArray,List.set_cons_zero,List.set_cons_succ,i64_w,i32_w]
          rfl
         refine pure_ (i:=8) (N:=some 49) (v:=?_) (a':=?_) #[true,true,true,true,true,true,false,false,true,false,false,false,false,false,false,false] rfl rfl (any_of HT_.out (by kernel_rfl)) (fun _ _ _ h=>h) (Or.inl ⟨by rfl,?_⟩) ?_ ?_
         rotate_left
         ·intro w'
          go_simp
          with_reducible rfl
         rotate_left
         ·simp only [Act.put,List.setIfInBounds_toArray,List.set_cons_zero,List.set_cons_succ,i64_w,i32_w]
          rfl
         refine take_ (i:=6) (N:=some 47) (v:=?_) (a':=?_) #[true,true,true,true,true,true,true,false,true,false,false,false,false,false,false,false] rfl rfl (take_ofW HT_.out HW_.out (by kernel_rfl)) (fun _ _ _ h=>h) (Or.inl ⟨by rfl,?_⟩) hHeld ?_ ?_
         rotate_left
         ·rintro w' ⟨s0,s1,s2⟩
          go_simp
          with_reducible rfl
         rotate_left
         ·simp only [Act.put,List.setIfInBounds_toArray,List.set_cons_zero,List.set_cons_succ,i64_w,i32_w]
          rfl
         refine join_ (σ:=Value × Addr) 6 #[true,true,true,true,true,true,true,true,true,true,false,false,false,false,false,false] (fun s_=>[(48,s_.1),(50,.int .i64 t237)]) (fun s_ w'=>(w'.cell? (ad233.add ((t222).toNat * 3))=some (.int .i64 ((rd_T34 y219 t222).f0))∧w'.cell? ⟨(ad233.add ((t222).toNat * 3)).block,(ad233.add ((t222).toNat * 3)).off+1,none⟩=some (.int .i64 ((rd_T34 y219 t222).f1))∧w'.cell? ⟨(ad233.add ((t222).toNat * 3)).block,(ad233.add ((t222).toNat * 3)).off+2,none⟩=some (.string ((rd_T34 y219 t222).f2)))∧(Kd.R k34 34 w' w.heap.size (fun _=>True) (.slice (some ad233) y219.length co37) y219)∧(Kd.R (Kd.int .i64) 3 w' w.heap.size (fun _=>True) s_.1 y234)∧(∃ c_,(s_.1:Value) = .slice (some s_.2) y234.length c_)∧(IsS77 w0 w' g s0_0 t238)∧(KeepBut w w' g none)∧(Below w0.heap.size w0 w')) ?_ ?_
         rotate_left
         ·intro hCont
          refine two_ (i:=7) (j:=9) (Ni:=some 48) (Nj:=some 50) #[true,true,true,true,true,true,true,true,true,false,false,false,false,false,false,false] #[true,true,true,true,true,true,true,false,true,true,false,false,false,false,false,false] rfl rfl rfl rfl (two_of HT_.out (by kernel_rfl)) (by decide) (by decide) (fun K hK=>?_) (fun K hK=>?_)
          ·skip
           refine Kd.R_lit_step (Kd.int .i64) _ 3 ?hg (N:=48) ?hd (xs:=([1,(-1),99999,(-99999)]:List Int)) (inner:=[.int .i64 1,.int .i64 (-1),.int .i64 99999,.int .i64 (-99999)]) (ok:=fun _=>True) (okp:=fun _=>True) ?hr ?hp (fun _ hk=>hk) trivial (Below.refl _ _) (Nat.le_refl _) (by simp) ?_;(case hd=>rfl);(case hg=>rfl);(case hr=>first|(go_simp;done)|(go_simp;rfl));(case hp=>exact (Reps.one (show Kd.M (Kd.int .i64) _ _ _ 1 [.int .i64 1] from rfl) (Reps.one (show Kd.M (Kd.int .i64) _ _ _ (-1) [.int .i64 (-1)] from rfl) (Reps.one (show Kd.M (Kd.int .i64) _ _ _ 99999 [.int .i64 99999] from rfl) (Reps.one (show Kd.M (Kd.int .i64) _ _ _ (-99999) [.int .i64 (-99999)] from rfl) (Reps.none _ _))))))
           intro v235 w41 ho42 hb hg_ hnew_
           have HS0_:=(hb.cell (World.block_lt_of_cell? _ _ (hHeld.1))).trans (hHeld.1)
           have HS1_:=(hb.cell (World.block_lt_of_cell? _ _ (hHeld.2.1))).trans (hHeld.2.1)
           have HS2_:=(hb.cell (World.block_lt_of_cell? _ _ (hHeld.2.2))).trans (hHeld.2.2)
           clear hg_ hnew_
           (first|rw [← Ny234.out] at ho42|(simp only [Int.reduceToNat] at ho42;rw [← Ny234.out] at ho42))
           have n0_:=Aside0.mk (Kd.R_below qz9 hb)
           have n1_:=Aside0.mk (Kd.R_lower ho42 (keep_size (w:=w) (g:=g) (row:=none) qz2))
           have n2_:=Aside0.mk (IsS77.below qz1 hb)
           have n3_:=Aside0.mk (KeepBut.trans qz2 (KeepBut.of_below hb g none) (.inl rfl))
           have n4_:=Aside0.mk (below_step qz3 hb)
           clear HO221 HI0 HK HB
           have HO221:=n0_
           have HO236:=n1_
           have HI0:=n2_
           have HK:=n3_
           have HB:=n4_
           clear n0_ n1_ n2_ n3_ n4_ hb ho42
           obtain ⟨Ao43,co43,eo43⟩:=Kd.R_slice HO236.out
           subst eo43
           obtain ⟨ado43,fo43,_⟩:=Kd.at_int (Kd.R_reads' HO236.out).2.2 0 (by decide) (by rw [Ny234.out];simp)
           cases fo43
           refine hK.out _ _ ⟨HS0_,HS1_,HS2_⟩ (fun hHeld=>?_)
           clear hK K
           refine norm_ (a':=?_) ?_ ?_
           rotate_left
           ·show Act.put _ (some 48) _=_
            simp only [Act.put,List.setIfInBounds_toArray,List.set_cons_zero,List.set_cons_succ,i64_w,i32_w]
            rfl
           refine one_ (i:=9) (N:=some 50) #[true,true,true,true,true,true,true,true,true,true,false,false,false,false,false,false] rfl rfl (one_of HT_.out (by kernel_rfl)) (by decide) (fun K hK=>?_)
           refine goes_ Tryd.func43 (by kernel_rfl) rfl #[.pointer (some ⟨g,0,none⟩),.int .i64 4] (by rfl) rfl rfl qz5 ?_
           with_reducible refine (spec_l20Rd_pick.calls k g s0_0 t225 4 t237 t238 w0 _ ?side1 ?side2 A30.out).mono ?_
           (case side1=>exact qz1)
           (case side2=>exact qz3)
           rintro e w44 ⟨rfl,hi,hb,hk⟩
           have HS0_:=keep_cell hk (hHeld.1) qz19
           have HS1_:=keep_cell hk (hHeld.2.1) qz19
           have HS2_:=keep_cell hk (hHeld.2.2) qz19
           refine ⟨_,rfl,?_⟩
           have n0_:=Aside0.mk (Kd.R_mono (Kd.R_keep (IsS77.apart (show IsS77 w0 _ g s0_0 t225 from qz1) qz9 (by decide)) hk (fun _ h=>h.2)) (fun _ h=>h.1))
           have n1_:=Aside0.mk (Kd.R_mono (Kd.R_keep (IsS77.apart (show IsS77 w0 _ g s0_0 t225 from qz1) qz46 (by decide)) hk (fun _ h=>h.2)) (fun _ h=>h.1))
           have n2_:=Aside0.mk (KeepBut.trans qz2 hk (.inl rfl))
           have n3_:=Aside0.mk (hb)
           have n4_:=Aside0.mk (hi)
           clear HO221 HO236 HK HB HI0
           have HO221:=n0_
           have HO236:=n1_
           have HK:=n2_
           have HB:=n3_
           have HI0:=n4_
           clear n0_ n1_ n2_ n3_ n4_
           (try clear hb)
           (try clear hb2)
           (try clear hk)
           (try clear hi)
           refine hK.out _ _ ⟨HS0_,HS1_,HS2_⟩ (fun hHeld=>?_)
           clear hK K
           refine norm_ (a':=?_) ?_ ?_
           rotate_left
           ·show Act.put _ (some 50) _=_
            simp only [Act.put,List.setIfInBounds_toArray,List.set_cons_zero,List.set_cons_succ,i64_w,i32_w]
            rfl
           exact norm_ (by simp only [putAll,Act.put,List.setIfInBounds_toArray,List.set_cons_zero,List.set_cons_succ]) (hCont (.slice (some ado43) y234.length co43,ado43) _ ⟨hHeld,qz9,qz46,⟨_,rfl⟩,qz1,qz2,qz3⟩)
          ·skip
           refine goes_ Tryd.func43 (by kernel_rfl) rfl #[.pointer (some ⟨g,0,none⟩),.int .i64 4] (by rfl) rfl rfl qz5 ?_
           with_reducible refine (spec_l20Rd_pick.calls k g s0_0 t225 4 t237 t238 w0 _ ?side1 ?side2 A30.out).mono ?_
           (case side1=>exact qz1)
           (case side2=>exact qz3)
           rintro e w41 ⟨rfl,hi,hb,hk⟩
           have HS0_:=keep_cell hk (hHeld.1) qz19
           have HS1_:=keep_cell hk (hHeld.2.1) qz19
           have HS2_:=keep_cell hk (hHeld.2.2) qz19
           refine ⟨_,rfl,?_⟩
           have n0_:=Aside0.mk (Kd.R_mono (Kd.R_keep (IsS77.apart (show IsS77 w0 _ g s0_0 t225 from qz1) qz9 (by decide)) hk (fun _ h=>h.2)) (fun _ h=>h.1))
           have n1_:=Aside0.mk (KeepBut.trans qz2 hk (.inl rfl))
           have n2_:=Aside0.mk (hb)
           have n3_:=Aside0.mk (hi)
           clear HO221 HK HB HI0
           have HO221:=n0_
           have HK:=n1_
           have HB:=n2_
           have HI0:=n3_
           clear n0_ n1_ n2_ n3_
           (try clear hb)
           (try clear hb2)
           (try clear hk)
           (try clear hi)
           refine hK.out _ _ ⟨HS0_,HS1_,HS2_⟩ (fun hHeld=>?_)
           clear hK K
           refine norm_ (a':=?_) ?_ ?_
           rotate_left
           ·show Act.put _ (some 50) _=_
            simp only [Act.put,List.setIfInBounds_toArray,List.set_cons_zero,List.set_cons_succ,i64_w,i32_w]
            rfl
           refine one_ (i:=7) (N:=some 48) #[true,true,true,true,true,true,true,true,true,true,false,false,false,false,false,false] rfl rfl (one_of HT_.out (by kernel_rfl)) (by decide) (fun K hK=>?_)
           refine Kd.R_lit_step (Kd.int .i64) _ 3 ?hg (N:=48) ?hd (xs:=([1,(-1),99999,(-99999)]:List Int)) (inner:=[.int .i64 1,.int .i64 (-1),.int .i64 99999,.int .i64 (-99999)]) (ok:=fun _=>True) (okp:=fun _=>True) ?hr ?hp (fun _ hk=>hk) trivial (Below.refl _ _) (Nat.le_refl _) (by simp) ?_;(case hd=>rfl);(case hg=>rfl);(case hr=>first|(go_simp;done)|(go_simp;rfl));(case hp=>exact (Reps.one (show Kd.M (Kd.int .i64) _ _ _ 1 [.int .i64 1] from rfl) (Reps.one (show Kd.M (Kd.int .i64) _ _ _ (-1) [.int .i64 (-1)] from rfl) (Reps.one (show Kd.M (Kd.int .i64) _ _ _ 99999 [.int .i64 99999] from rfl) (Reps.one (show Kd.M (Kd.int .i64) _ _ _ (-99999) [.int .i64 (-99999)] from rfl) (Reps.none _ _))))))
           intro v235 w42 ho43 hb hg_ hnew_
           have HS0_:=(hb.cell (World.block_lt_of_cell? _ _ (hHeld.1))).trans (hHeld.1)
           have HS1_:=(hb.cell (World.block_lt_of_cell? _ _ (hHeld.2.1))).trans (hHeld.2.1)
           have HS2_:=(hb.cell (World.block_lt_of_cell? _ _ (hHeld.2.2))).trans (hHeld.2.2)
           clear hg_ hnew_
           (first|rw [← Ny234.out] at ho43|(simp only [Int.reduceToNat] at ho43;rw [← Ny234.out] at ho43))
           have n0_:=Aside0.mk (Kd.R_below qz9 hb)
           have n1_:=Aside0.mk (Kd.R_lower ho43 (keep_size (w:=w) (g:=g) (row:=none) qz2))
           have n2_:=Aside0.mk (IsS77.below qz1 hb)
           have n3_:=Aside0.mk (KeepBut.trans qz2 (KeepBut.of_below hb g none) (.inl rfl))
           have n4_:=Aside0.mk (below_step qz3 hb)
           clear HO221 HI0 HK HB
           have HO221:=n0_
           have HO236:=n1_
           have HI0:=n2_
           have HK:=n3_
           have HB:=n4_
           clear n0_ n1_ n2_ n3_ n4_ hb ho43
           obtain ⟨Ao44,co44,eo44⟩:=Kd.R_slice HO236.out
           subst eo44
           obtain ⟨ado44,fo44,_⟩:=Kd.at_int (Kd.R_reads' HO236.out).2.2 0 (by decide) (by rw [Ny234.out];simp)
           cases fo44
           refine hK.out _ _ ⟨HS0_,HS1_,HS2_⟩ (fun hHeld=>?_)
           clear hK K
           refine norm_ (a':=?_) ?_ ?_
           rotate_left
           ·show Act.put _ (some 48) _=_
            simp only [Act.put,List.setIfInBounds_toArray,List.set_cons_zero,List.set_cons_succ,i64_w,i32_w]
            rfl
           exact norm_ (by simp only [putAll,Act.put,List.setIfInBounds_toArray,List.set_cons_zero,List.set_cons_succ]) (hCont (.slice (some ado44) y234.length co44,ado44) _ ⟨hHeld,qz9,qz46,⟨_,rfl⟩,qz1,qz2,qz3⟩)
         rintro ⟨v235,adz_v235⟩ w45 ⟨hS_,h0_,h1_,h2_,h3_,h4_,h5_⟩
         have n0_:Aside0 (Kd.R k34 34 w45 w.heap.size (fun _=>True) (.slice (some ad233) y219.length co37) y219):=⟨h0_⟩
         have n1_:Aside0 (Kd.R (Kd.int .i64) 3 w45 w.heap.size (fun _=>True) v235 y234):=⟨h1_⟩
         have n2_:Aside0 (∃ c_,(v235:Value) = .slice (some adz_v235) y234.length c_):=⟨h2_⟩
         have n3_:Aside0 (IsS77 w0 w45 g s0_0 t238):=⟨h3_⟩
         have n4_:Aside0 (KeepBut w w45 g none):=⟨h4_⟩
         have n5_:Aside0 (Below w0.heap.size w0 w45):=⟨h5_⟩
         clear HO221 HI0 HK HB h0_ h1_ h2_ h3_ h4_ h5_
         have HO221:=n0_
         have HO236:=n1_
         have HA_HO236:=n2_
         have HI0:=n3_
         have HK:=n4_
         have HB:=n5_
         clear n0_ n1_ n2_ n3_ n4_ n5_
         have hHeld:w45.cell? (ad233.add ((t222).toNat * 3))=some (.int .i64 ((rd_T34 y219 t222).f0))∧w45.cell? ⟨(ad233.add ((t222).toNat * 3)).block,(ad233.add ((t222).toNat * 3)).off+1,none⟩=some (.int .i64 ((rd_T34 y219 t222).f1))∧w45.cell? ⟨(ad233.add ((t222).toNat * 3)).block,(ad233.add ((t222).toNat * 3)).off+2,none⟩=some (.string ((rd_T34 y219 t222).f2)):=hS_
         obtain ⟨co46,eo46⟩:=HA_HO236.out
         clear HA_HO236
         subst eo46
         have p33:0≤(t222:Int):=of_decide_eq_true qz6
         have q33:(t222:Int)<((y219.length:Int):Int):=of_decide_eq_true qz6
         obtain ⟨go33,co33,eo33,gb33,gl33,cl33,HG33⟩:=Kd.R_form HO221.out (by omega)
         (first|cases eo33|(injection eo33 with ea_ en_ ec_;(first|subst ea_|(injection ea_ with ea_;subst ea_));subst ec_;clear en_))
         have GB33:=Aside0.mk gb33
         have GG33:=Aside0.mk HG33
         clear gb33 gl33 HG33
         (first|simp only [add_plain] at hx233_0|skip)
         (first|simp only [add_plain] at hx233_1|skip)
         (first|simp only [add_plain] at hx233_2|skip)
         obtain ⟨ce33,hcl33,hM33,hcc33,hfr33⟩:=Kd.R_elem HO221.out z34 (t222:Int) p33 q33
         obtain rfl:=k34_openM hM33
         have hx33_0:World.cell? _ ⟨go33,(t222:Int).toNat * 3,none⟩=some (.int .i64 ((rd_T34 y219 t222).f0)):=hcc33 0 _ rfl
         have hx33_1:World.cell? _ ⟨go33,(t222:Int).toNat * 3+1,none⟩=some (.int .i64 ((rd_T34 y219 t222).f1)):=hcc33 1 _ rfl
         have hx33_2:World.cell? _ ⟨go33,(t222:Int).toNat * 3+2,none⟩=some (.string ((rd_T34 y219 t222).f2)):=hcc33 2 _ rfl
         have hf33_0:World.frozen? _ ⟨go33,(t222:Int).toNat * 3,none⟩=false:=hfr33 0
         have hf33_1:World.frozen? _ ⟨go33,(t222:Int).toNat * 3+1,none⟩=false:=hfr33 1
         have hf33_2:World.frozen? _ ⟨go33,(t222:Int).toNat * 3+2,none⟩=false:=hfr33 2
         (try clear hcl33);(try clear hcc33);(try clear hfr33);(try clear hM33)
         replace p33:=eq_true p33
         replace q33:=eq_true q33
         have HN0_go33:=Aside0.mk (show g≠go33 from by have h_:=IsS77.own_ne HI0.out HO221.out (by decide);intro e_;exact h_ (by rw [e_];rfl))
         obtain ⟨ce47,hcl47,hM47,hcc47,hfr47⟩:=Kd.R_elem HO221.out z34 (t222:Int) (of_decide_eq_true qz6) (by have h_:(t222:Int)<((y219.length:Int):Int):=of_decide_eq_true qz6;first|exact h_|(have e_:=(Kd.R_reads' HO221.out).1;omega)|simpa using h_)
         obtain rfl:=k34_openM hM47
         have HP47:=(Kd.R_seg HO221.out (t222:Int) (of_decide_eq_true qz6) (by have h_:(t222:Int)<((y219.length:Int):Int):=of_decide_eq_true qz6;first|exact h_|(have e_:=(Kd.R_reads' HO221.out).1;omega)|simpa using h_) (seg:=[.int .i64 (wrap64 (((rd_T34 y219 t222).f1)+(rd y234 t237)))]) (j:=1) hcl47 hcc47 (show 2≤3 from by decide) (x':=(⟨(rd_T34 y219 t222).f0,wrap64 (((rd_T34 y219 t222).f1)+(rd y234 t237)),(rd_T34 y219 t222).f2⟩:S34)) (k34_mkM _ _ _ (⟨(rd_T34 y219 t222).f0,wrap64 (((rd_T34 y219 t222).f1)+(rd y234 t237)),(rd_T34 y219 t222).f2⟩:S34) ) (fun _ hk=>hk)).1
         rw [← Ny240.out] at HP47
         have HQ47:=Aside0.mk HP47
         (try clear hcl47);(try clear hcc47);(try clear hfr47);(try clear hM47);(try clear HP47)
         refine norm_ (a':=?_) ?_ ?_
         rotate_left
         ·simp only [putAll,Act.put,List.setIfInBounds_toArray,List.set_cons_zero,List.set_cons_succ]
          rfl
         refine pure_ (i:=10) (N:=some 51) (v:=?_) (a':=?_) #[true,true,true,true,true,true,true,true,true,true,true,false,false,false,false,false] rfl rfl (any_of HT_.out (by kernel_rfl)) (fun _ _ _ h=>h) (Or.inl ⟨by rfl,?_⟩) ?_ ?_
         rotate_left
         ·intro w'
          go_simp
          with_reducible rfl
         rotate_left
         ·simp only [Act.put,List.setIfInBounds_toArray,List.set_cons_zero,List.set_cons_succ,i64_w,i32_w]
          rfl
         refine one_ (i:=11) (N:=some 52) #[true,true,true,true,true,true,true,true,true,true,true,true,false,false,false,false] rfl rfl (one_of HT_.out (by kernel_rfl)) (by decide) (fun K hK=>?_)
         (have p239:0≤(t237:Int):=of_decide_eq_true qz6;have q239:t237<(y234.length:Int):=of_decide_eq_true qz6;obtain ⟨ad239,e239,hx239_0⟩:=Kd.at_int (Kd.R_reads' HO236.out).2.2 t237 p239 q239;obtain rfl:adz_v235=ad239:=(by injection e239))
         refine value_ (w1:=?_) (v:=?_) (by rfl) rfl ?_ ?_
         rotate_left 2
         ·go_simp
          constructor
          ·rfl
          ·rfl
         clear hx239_0
         refine hK.out _ _ ⟨hHeld.1,hHeld.2.1,hHeld.2.2⟩ (fun hHeld=>?_)
         clear hK K
         refine norm_ (a':=?_) ?_ ?_
         rotate_left
         ·show Act.put _ (some 52) _=_
          simp only [Act.put,List.setIfInBounds_toArray,List.set_cons_zero,List.set_cons_succ,i64_w,i32_w]
          rfl
         refine pure_ (i:=12) (N:=some 53) (v:=?_) (a':=?_) #[true,true,true,true,true,true,true,true,true,true,true,true,true,false,false,false] rfl rfl (any_of HT_.out (by kernel_rfl)) (fun _ _ _ h=>h) (Or.inl ⟨by rfl,?_⟩) ?_ ?_
         rotate_left
         ·intro w'
          go_simp
          with_reducible rfl
         rotate_left
         ·simp only [Act.put,List.setIfInBounds_toArray,List.set_cons_zero,List.set_cons_succ,i64_w,i32_w]
          rfl
         refine pure_ (i:=13) (N:=some 54) (v:=?_) (a':=?_) #[true,true,true,true,true,true,true,true,true,true,true,true,true,true,false,false] rfl rfl (any_of HT_.out (by kernel_rfl)) (fun _ _ _ h=>h) (Or.inl ⟨by rfl,?_⟩) ?_ ?_
         rotate_left
         ·intro w'
          go_simp
          with_reducible rfl
         rotate_left
         ·simp only [Act.put,List.setIfInBounds_toArray,List.set_cons_zero,List.set_cons_succ,i64_w,i32_w]
          rfl
         refine pure_ (i:=14) (N:=some 55) (v:=?_) (a':=?_) #[true,true,true,true,true,true,true,true,true,true,true,true,true,true,true,false] rfl rfl (any_of HT_.out (by kernel_rfl)) (fun _ _ _ h=>h) (Or.inl ⟨by rfl,?_⟩) ?_ ?_
         rotate_left
         ·intro w'
          go_simp
          with_reducible rfl
         rotate_left
         ·simp only [Act.put,List.setIfInBounds_toArray,List.set_cons_zero,List.set_cons_succ,i64_w,i32_w]
          rfl
         refine last_ (i:=15) (N:=none) #[true,true,true,true,true,true,true,true,true,true,true,true,true,true,true,true] rfl rfl (one_of HT_.out (by kernel_rfl)) (by decide) (fun K hK=>?_)
         refine skip_ (w1:=?_) (by rfl) rfl ?_ ?_
         rotate_left
         ·go_simp
          rfl
         refine hK.out _ _ ?_
         clear hK K
         refine done_ (done_of HT_.out (by kernel_rfl)) ?_
         try go_wp2
         go_ret
         exact ⟨_,qz8,by (with_reducible repeat (first|apply Kd.R_alloc|apply Kd.R_drewN|apply Kd.R_drew));exact HQ47.out,by repeat (first|(with_reducible first|exact HI0.out|apply IsS77.alloc|apply IsS77.drewN|apply IsS77.drew|apply IsS77.set_1|refine IsS77.far ?_ HN0_go33.out _)|exact HI0.out),by repeat (first|(with_reducible first|exact HB.out|apply below_alloc|apply pw_below_drewN|apply below_drew1|refine below_set ?_ (Nat.le_trans HL.out GB33.out)|refine below_set ?_ (IsS77.ge HI0.out))|exact HB.out),by repeat (first|(with_reducible first|exact HK.out|apply KeepBut.set_|apply keep_drewN|apply keep_drew|apply keep_alloc|refine keep_far ?_ GB33.out _)|exact HK.out)⟩
        ·rw [if_neg c32] at H
         exact absurd H (by simp)
       ·rw [if_neg c31] at H
        exact absurd H (by simp)
      ·rw [if_neg c29] at H
       exact absurd H (by simp)
     ·rw [if_neg c28] at H
      exact absurd H (by simp)
    ·rw [if_neg c27] at H
     have c27b0:(t224 == 2)=false:=beq_eq_false_iff_ne.mpr c27
     have c27b1:(t224 != 2)=true:=bne_iff_ne.mpr c27
     by_cases c48:t224=3
     ·rw [if_pos c48] at H
      have c48b0:(t224 == 3)=true:=beq_iff_eq.mpr c48
      have c48b1:(t224 != 3)=false:=bne_eq_false_iff_eq.mpr c48
      clear c48
      obtain ⟨y241,hy241⟩:∃ y_:List ByteArray,y_=(([(⟨#[]⟩:ByteArray),(⟨#[116,111,111,108,111,110,103,110,97,109,101]⟩:ByteArray),(⟨#[65]⟩:ByteArray),(⟨#[97]⟩:ByteArray)]:List ByteArray)):=⟨_,rfl⟩
      replace H:((spec_l20Rd_pick.f k s0_0 t225 4).bind fun bt244=>(if 0≤bt244.1 then (if bt244.1<(y241.length:Int) then (if 0≤t222 then (if t222<(y219.length:Int) then (some ((y219.set (t222:Int).toNat (⟨(rd_T34 y219 t222).f0,(rd_T34 y219 t222).f1,rdOf ByteArray.empty y241 bt244.1⟩:S34)),bt244.2)) else (none)) else (none)) else (none)) else (none)))=some (r1,r2):=by first|(rw [hy241];exact H)|exact H
      have Ny241:=Aside0.mk hy241
      clear hy241
      replace H:=Option.bind_eq_some_iff.mp H
      obtain ⟨⟨t244,t245⟩,A490,H⟩:=H
      try dsimp only at H
      have A49:=Aside0.mk A490
      clear A490
      by_cases c50:0≤t244
      ·rw [if_pos c50] at H
       have c50b0:decide (0≤t244)=true:=decide_eq_true c50
       clear c50
       by_cases c51:t244<(y241.length:Int)
       ·rw [if_pos c51] at H
        have c51b0:decide (t244<(y241.length:Int))=true:=decide_eq_true c51
        clear c51
        by_cases c52:0≤t222
        ·rw [if_pos c52] at H
         have c52b0:decide (0≤t222)=true:=decide_eq_true c52
         clear c52
         by_cases c53:t222<(y219.length:Int)
         ·rw [if_pos c53] at H
          have c53b0:decide (t222<(y219.length:Int))=true:=decide_eq_true c53
          clear c53
          obtain ⟨y247,hy247⟩:∃ y_:List (S34),y_=(y219.set (t222:Int).toNat (⟨(rd_T34 y219 t222).f0,(rd_T34 y219 t222).f1,rdOf ByteArray.empty y241 t244⟩:S34)):=⟨_,rfl⟩
          replace H:(some (y247,t245))=some (r1,r2):=by first|(rw [hy247];exact H)|exact H
          have Ny247:=Aside0.mk hy247
          clear hy247
          simp only [Option.some.injEq,Prod.mk.injEq] at H
          obtain ⟨rfl,rfl⟩:=H
          go_enter Tryd.func45,Tryd.ntmps45
          go_wp2_with (first|((with_reducible refine gate_dst (N:=7) rfl ?_);refine Kd.R_lit k34 _ 34 ?hg (N:=7) ?hd (xs:=([]:List (S34))) (inner:=[]) (ok:=fun _=>True) (okp:=fun _=>True) ?hr ?hp (fun _ hk=>hk) trivial (Below.refl _ _) (Nat.le_refl _) (by simp) ?_;(case hd=>rfl);(case hg=>rfl);(case hr=>first|(go_simp;done)|(go_simp;rfl));(case hp=>exact (Reps.none _ _));intro v217 w55 ho56 hb hg_ hnew_;clear hg_ hnew_;(first|rw [← Ny216.out] at ho56|(simp only [Int.reduceToNat] at ho56;rw [← Ny216.out] at ho56));have n0_:=Aside0.mk (Kd.R_lower ho56 (keep_size (w:=w) (g:=g) (row:=none) qz2));have n1_:=Aside0.mk (IsS77.below qz1 hb);have n2_:=Aside0.mk (KeepBut.trans qz2 (KeepBut.of_below hb g none) (.inl rfl));have n3_:=Aside0.mk (below_step qz3 hb);clear HI0 HK HB;have HO218:=n0_;have HI0:=n1_;have HK:=n2_;have HB:=n3_;clear n0_ n1_ n2_ n3_ hb ho56)|((with_reducible refine gate_builtin (b:=.append) (xs:=#[.tmp 7,.tmp 8]) rfl ?_);at_builtin;refine Kd.R_append_rows k34 w.heap.size rfl (.tmp 7) (.tmp 8) 25 34 (.agg #[(.int .i64 0),(.int .i64 0),(.string ⟨#[]⟩)]) 32 rfl Tryd.underlying25 info34 rfl (by decide) (by omega) v217 y216 l1 _ _ _ (fun _=>True) (fun _=>False) rfl rfl ?aO ?aR (fun _ _ h=>h) (fun _ h=>h.elim) ?aF (Below.refl _ _) ?aS ?aL ?_;(case aR=>exact Kd.C_foot_now HR1.out qz2);(case aF=>exact (fun _ _=>trivial));(case aO=>exact qz32);(case aS=>exact (keep_size (w:=w) (g:=g) (row:=none) qz2));(case aL=>have:=LMc3.out;omega);intro v220 w57 ho hb hg hat;rw [← Ny219.out] at ho;have n0_:=Aside0.mk (IsS77.grown qz1 hg (IsS77.own_ne HI0.out HO218.out (by decide)));have n1_:=Aside0.mk (below_weaken qz3 HL.out hb);have n2_:=Aside0.mk (KeepBut.trans qz2 (KeepBut.of_grown hg g) (Kd.R_base2 HO218.out));have n3_:=Aside0.mk (ho);clear HI0 HB HK HO218;have HI0:=n0_;have HB:=n1_;have HK:=n2_;have HO221:=n3_;clear n0_ n1_ n2_ n3_ ho hb hg hat;obtain ⟨Ao58,co58,eo58⟩:=Kd.R_slice HO221.out;subst eo58)|((with_reducible refine gate_callee (f:=43) rfl ?_);refine goesL_ (some 13) rfl rfl Tryd.func43 (by kernel_rfl) rfl #[.pointer (some ⟨g,0,none⟩),.int .i64 (y219.length:Int)] rfl qz5 ?_;(with_reducible refine (spec_l20Rd_pick.calls k g s0_0 s0_1 (y219.length:Int) t222 t223 w0 _ ?side1 ?side2 A4.out).mono ?_);(case side1=>exact qz1);(case side2=>exact qz3);rintro e w59 ⟨rfl,hi,hb,hk⟩;refine ⟨_,rfl,?_⟩;have n0_:=Aside0.mk (Kd.R_mono (Kd.R_keep (IsS77.apart (show IsS77 w0 _ g s0_0 s0_1 from qz1) qz9 (by decide)) hk (fun _ h=>h.2)) (fun _ h=>h.1));have n1_:=Aside0.mk (KeepBut.trans qz2 hk (.inl rfl));have n2_:=Aside0.mk (hb);have n3_:=Aside0.mk (hi);clear HO221 HK HB HI0;have HO221:=n0_;have HK:=n1_;have HB:=n2_;have HI0:=n3_;clear n0_ n1_ n2_ n3_;(try clear hb);(try clear hb2);(try clear hk);(try clear hi))|((with_reducible refine gate_callee (f:=43) rfl ?_);refine goesL_ (some 15) rfl rfl Tryd.func43 (by kernel_rfl) rfl #[.pointer (some ⟨g,0,none⟩),.int .i64 7] rfl qz5 ?_;(with_reducible refine (spec_l20Rd_pick.calls k g s0_0 t223 7 t224 t225 w0 _ ?side1 ?side2 A5.out).mono ?_);(case side1=>exact qz1);(case side2=>exact qz3);rintro e w60 ⟨rfl,hi,hb,hk⟩;refine ⟨_,rfl,?_⟩;have n0_:=Aside0.mk (Kd.R_mono (Kd.R_keep (IsS77.apart (show IsS77 w0 _ g s0_0 t223 from qz1) qz9 (by decide)) hk (fun _ h=>h.2)) (fun _ h=>h.1));have n1_:=Aside0.mk (KeepBut.trans qz2 hk (.inl rfl));have n2_:=Aside0.mk (hb);have n3_:=Aside0.mk (hi);clear HO221 HK HB HI0;have HO221:=n0_;have HK:=n1_;have HB:=n2_;have HI0:=n3_;clear n0_ n1_ n2_ n3_;(try clear hb);(try clear hb2);(try clear hk);(try clear hi))|((with_reducible refine gate_dst (N:=60) rfl ?_);refine Kd.R_lit Kd.string _ 9 ?hg (N:=60) ?hd (xs:=([(⟨#[]⟩:ByteArray),(⟨#[116,111,111,108,111,110,103,110,97,109,101]⟩:ByteArray),(⟨#[65]⟩:ByteArray),(⟨#[97]⟩:ByteArray)]:List ByteArray)) (inner:=[.string (⟨#[]⟩:ByteArray),.string (⟨#[116,111,111,108,111,110,103,110,97,109,101]⟩:ByteArray),.string (⟨#[65]⟩:ByteArray),.string (⟨#[97]⟩:ByteArray)]) (ok:=fun _=>True) (okp:=fun _=>True) ?hr ?hp (fun _ hk=>hk) trivial (Below.refl _ _) (Nat.le_refl _) (by simp) ?_;(case hd=>rfl);(case hg=>rfl);(case hr=>first|(go_simp;done)|(go_simp;rfl));(case hp=>exact (Reps.one (show Kd.M Kd.string _ _ _ (⟨#[]⟩:ByteArray) [.string (⟨#[]⟩:ByteArray)] from rfl) (Reps.one (show Kd.M Kd.string _ _ _ (⟨#[116,111,111,108,111,110,103,110,97,109,101]⟩:ByteArray) [.string (⟨#[116,111,111,108,111,110,103,110,97,109,101]⟩:ByteArray)] from rfl) (Reps.one (show Kd.M Kd.string _ _ _ (⟨#[65]⟩:ByteArray) [.string (⟨#[65]⟩:ByteArray)] from rfl) (Reps.one (show Kd.M Kd.string _ _ _ (⟨#[97]⟩:ByteArray) [.string (⟨#[97]⟩:ByteArray)] from rfl) (Reps.none _ _))))));intro v242 w61 ho62 hb hg_ hnew_;clear hg_ hnew_;(first|rw [← Ny241.out] at ho62|(simp only [Int.reduceToNat] at ho62;rw [← Ny241.out] at ho62));have n0_:=Aside0.mk (Kd.R_below qz9 hb);have n1_:=Aside0.mk (Kd.R_lower ho62 (keep_size (w:=w) (g:=g) (row:=none) qz2));have n2_:=Aside0.mk (IsS77.below qz1 hb);have n3_:=Aside0.mk (KeepBut.trans qz2 (KeepBut.of_below hb g none) (.inl rfl));have n4_:=Aside0.mk (below_step qz3 hb);clear HO221 HI0 HK HB;have HO221:=n0_;have HO243:=n1_;have HI0:=n2_;have HK:=n3_;have HB:=n4_;clear n0_ n1_ n2_ n3_ n4_ hb ho62)|((with_reducible refine gate_callee (f:=43) rfl ?_);refine goesL_ (some 62) rfl rfl Tryd.func43 (by kernel_rfl) rfl #[.pointer (some ⟨g,0,none⟩),.int .i64 4] rfl qz5 ?_;(with_reducible refine (spec_l20Rd_pick.calls k g s0_0 t225 4 t244 t245 w0 _ ?side1 ?side2 A49.out).mono ?_);(case side1=>exact qz1);(case side2=>exact qz3);rintro e w63 ⟨rfl,hi,hb,hk⟩;refine ⟨_,rfl,?_⟩;have n0_:=Aside0.mk (Kd.R_mono (Kd.R_keep (IsS77.apart (show IsS77 w0 _ g s0_0 t225 from qz1) qz9 (by decide)) hk (fun _ h=>h.2)) (fun _ h=>h.1));have n1_:=Aside0.mk (Kd.R_mono (Kd.R_keep (IsS77.apart (show IsS77 w0 _ g s0_0 t225 from qz1) (by (with_reducible repeat (first|apply Kd.R_alloc|apply Kd.R_drewN|apply Kd.R_drew));exact HO243.out) (by decide)) hk (fun _ h=>h.2)) (fun _ h=>h.1));have n2_:=Aside0.mk (KeepBut.trans qz2 hk (.inl rfl));have n3_:=Aside0.mk (hb);have n4_:=Aside0.mk (hi);clear HO221 HO243 HK HB HI0;have HO221:=n0_;have HO243:=n1_;have HK:=n2_;have HB:=n3_;have HI0:=n4_;clear n0_ n1_ n2_ n3_ n4_;(try clear hb);(try clear hb2);(try clear hk);(try clear hi);obtain ⟨Ao64,co64,eo64⟩:=Kd.R_slice HO243.out;subst eo64;have p246:0≤(t244:Int):=of_decide_eq_true qz6;have q246:t244<(y241.length:Int):=of_decide_eq_true qz6;obtain ⟨ad246,e246,hx246_0⟩:=Kd.at_string (Kd.R_reads' HO243.out).2.2 t244 p246 q246;cases e246;replace p246:=eq_true p246;replace q246:=eq_true q246;have p54:0≤(t222:Int):=of_decide_eq_true qz6;have q54:(t222:Int)<((y219.length:Int):Int):=of_decide_eq_true qz6;obtain ⟨go54,co54,eo54,gb54,gl54,cl54,HG54⟩:=Kd.R_form HO221.out (by omega);(first|cases eo54|(injection eo54 with ea_ en_ ec_;(first|subst ea_|(injection ea_ with ea_;subst ea_));subst ec_;clear en_));have GB54:=Aside0.mk gb54;have GG54:=Aside0.mk HG54;clear gb54 gl54 HG54;obtain ⟨ce54,hcl54,hM54,hcc54,hfr54⟩:=Kd.R_elem HO221.out z34 (t222:Int) p54 q54;obtain rfl:=k34_openM hM54;have hx54_0:w63.cell? ⟨go54,(t222:Int).toNat * 3,none⟩=some (.int .i64 ((rd_T34 y219 t222).f0)):=hcc54 0 _ rfl;have hx54_1:w63.cell? ⟨go54,(t222:Int).toNat * 3+1,none⟩=some (.int .i64 ((rd_T34 y219 t222).f1)):=hcc54 1 _ rfl;have hx54_2:w63.cell? ⟨go54,(t222:Int).toNat * 3+2,none⟩=some (.string ((rd_T34 y219 t222).f2)):=hcc54 2 _ rfl;have hf54_0:w63.frozen? ⟨go54,(t222:Int).toNat * 3,none⟩=false:=hfr54 0;have hf54_1:w63.frozen? ⟨go54,(t222:Int).toNat * 3+1,none⟩=false:=hfr54 1;have hf54_2:w63.frozen? ⟨go54,(t222:Int).toNat * 3+2,none⟩=false:=hfr54 2;(try clear hcl54);(try clear hcc54);(try clear hfr54);(try clear hM54);replace p54:=eq_true p54;replace q54:=eq_true q54;have HX65:=Aside0.mk (show Kd.R k34 34 w63 w.heap.size (fun _=>True) (.slice (some ⟨go54,0,none⟩) y219.length co58) y219 from qz9);obtain ⟨ce65,hcl65,hM65,hcc65,hfr65⟩:=Kd.R_elem HX65.out z34 (t222:Int) (of_decide_eq_true qz6) (by have h_:(t222:Int)<((y219.length:Int):Int):=of_decide_eq_true qz6;first|exact h_|(have e_:=(Kd.R_reads' HO221.out).1;omega)|simpa using h_);obtain rfl:=k34_openM hM65;have HP65:=Kd.R_seg HX65.out (t222:Int) (of_decide_eq_true qz6) (by have h_:(t222:Int)<((y219.length:Int):Int):=of_decide_eq_true qz6;first|exact h_|(have e_:=(Kd.R_reads' HO221.out).1;omega)|simpa using h_) (seg:=[.string (rdOf ByteArray.empty y241 t244)]) (j:=2) hcl65 hcc65 (show 3≤3 from by decide) (x':=(⟨(rd_T34 y219 t222).f0,(rd_T34 y219 t222).f1,rdOf ByteArray.empty y241 t244⟩:S34)) (k34_mkM _ _ _ (⟨(rd_T34 y219 t222).f0,(rd_T34 y219 t222).f1,rdOf ByteArray.empty y241 t244⟩:S34) ) (fun _ hk=>hk);have hx65_2:=hcc65 2 _ rfl;(try simp only [show (k34).sz=3 from rfl,Nat.mul_one,Nat.add_zero] at hx65_2);have hf65_2:=hfr65 2;(try simp only [show (k34).sz=3 from rfl,Nat.mul_one,Nat.add_zero] at hf65_2);clear hcl65 hcc65 hfr65 hM65)|((with_reducible refine gate_store (t:=9) (p:=66) rfl ?_);refine store_event (t:=9) (p:=66) (v:=?vo_w66) (w1:=(w63.setCell ⟨go54,(t222:Int).toNat * 3+2,none⟩ (.string (rdOf ByteArray.empty y241 t244)))) ?hg ?ho ?hn ?hr ?_;(case ho=>rfl);(case hg=>rfl);(case hn=>rfl);(case hr=>first|(go_simp;done)|(go_simp;rfl));intro w66 hw;have hg:w63.grownBy w66 (some go54):=(by rw [hw];exact HP65.2);have hp_:Kd.R k34 34 w66 w.heap.size (fun _=>True) (.slice (some ⟨go54,0,none⟩) y219.length co58) y247:=(by rw [hw,Ny247.out];exact HP65.1);clear HP65;have n0_:=Aside0.mk (IsS77.grown qz1 hg (IsS77.own_ne HI0.out HO221.out (by decide)));have n1_:=Aside0.mk (hp_);have n2_:=Aside0.mk (Kd.R_over' (v:=(.slice (some ⟨go54,0,none⟩) y219.length co58)) (by (with_reducible repeat (first|apply Kd.R_alloc|apply Kd.R_drewN|apply Kd.R_drew));exact HO243.out) (Kd.R_typed HO221.out) (by decide) hg);have n3_:=Aside0.mk ((by rw [hw];exact below_set (HB.out) (Nat.le_trans HL.out GB54.out):Below w0.heap.size w0 w66));have n4_:=Aside0.mk (KeepBut.trans qz2 (KeepBut.of_grown hg g) (Kd.R_base2 HO221.out));clear HI0 HO221 HO243 HB HK;have HI0:=n0_;have HO221:=n1_;have HO243:=n2_;have HB:=n3_;have HK:=n4_;clear n0_ n1_ n2_ n3_ n4_ hg hw hp_))
          go_ret
          exact ⟨_,qz8,qz9,qz1,qz3,qz2⟩
         ·rw [if_neg c53] at H
          exact absurd H (by simp)
        ·rw [if_neg c52] at H
         exact absurd H (by simp)
       ·rw [if_neg c51] at H
        exact absurd H (by simp)
      ·rw [if_neg c50] at H
       exact absurd H (by simp)
     ·rw [if_neg c48] at H
      have c48b0:(t224 == 3)=false:=beq_eq_false_iff_ne.mpr c48
      have c48b1:(t224 != 3)=true:=bne_iff_ne.mpr c48
      by_cases c67:t224=4
      ·rw [if_pos c67] at H
       have c67b0:(t224 == 4)=true:=beq_iff_eq.mpr c67
       have c67b1:(t224 != 4)=false:=bne_eq_false_iff_eq.mpr c67
       clear c67
       replace H:=Option.bind_eq_some_iff.mp H
       obtain ⟨⟨t248,t249⟩,A680,H⟩:=H
       try dsimp only at H
       have A68:=Aside0.mk A680
       clear A680
       by_cases c69:0≤t222
       ·rw [if_pos c69] at H
        have c69b0:decide (0≤t222)=true:=decide_eq_true c69
        clear c69
        by_cases c70:t222<(y219.length:Int)
        ·rw [if_pos c70] at H
         have c70b0:decide (t222<(y219.length:Int))=true:=decide_eq_true c70
         clear c70
         obtain ⟨y250,hy250⟩:∃ y_:List (S34),y_=(y219.set (t222:Int).toNat (⟨t248,(rd_T34 y219 t222).f1,(rd_T34 y219 t222).f2⟩:S34)):=⟨_,rfl⟩
         replace H:(some (y250,t249))=some (r1,r2):=by first|(rw [hy250];exact H)|exact H
         have Ny250:=Aside0.mk hy250
         clear hy250
         simp only [Option.some.injEq,Prod.mk.injEq] at H
         obtain ⟨rfl,rfl⟩:=H
         go_enter Tryd.func45,Tryd.ntmps45
         go_wp2_with (first|((with_reducible refine gate_dst (N:=7) rfl ?_);refine Kd.R_lit k34 _ 34 ?hg (N:=7) ?hd (xs:=([]:List (S34))) (inner:=[]) (ok:=fun _=>True) (okp:=fun _=>True) ?hr ?hp (fun _ hk=>hk) trivial (Below.refl _ _) (Nat.le_refl _) (by simp) ?_;(case hd=>rfl);(case hg=>rfl);(case hr=>first|(go_simp;done)|(go_simp;rfl));(case hp=>exact (Reps.none _ _));intro v217 w72 ho73 hb hg_ hnew_;clear hg_ hnew_;(first|rw [← Ny216.out] at ho73|(simp only [Int.reduceToNat] at ho73;rw [← Ny216.out] at ho73));have n0_:=Aside0.mk (Kd.R_lower ho73 (keep_size (w:=w) (g:=g) (row:=none) qz2));have n1_:=Aside0.mk (IsS77.below qz1 hb);have n2_:=Aside0.mk (KeepBut.trans qz2 (KeepBut.of_below hb g none) (.inl rfl));have n3_:=Aside0.mk (below_step qz3 hb);clear HI0 HK HB;have HO218:=n0_;have HI0:=n1_;have HK:=n2_;have HB:=n3_;clear n0_ n1_ n2_ n3_ hb ho73)|((with_reducible refine gate_builtin (b:=.append) (xs:=#[.tmp 7,.tmp 8]) rfl ?_);at_builtin;refine Kd.R_append_rows k34 w.heap.size rfl (.tmp 7) (.tmp 8) 25 34 (.agg #[(.int .i64 0),(.int .i64 0),(.string ⟨#[]⟩)]) 32 rfl Tryd.underlying25 info34 rfl (by decide) (by omega) v217 y216 l1 _ _ _ (fun _=>True) (fun _=>False) rfl rfl ?aO ?aR (fun _ _ h=>h) (fun _ h=>h.elim) ?aF (Below.refl _ _) ?aS ?aL ?_;(case aR=>exact Kd.C_foot_now HR1.out qz2);(case aF=>exact (fun _ _=>trivial));(case aO=>exact qz32);(case aS=>exact (keep_size (w:=w) (g:=g) (row:=none) qz2));(case aL=>have:=LMc3.out;omega);intro v220 w74 ho hb hg hat;rw [← Ny219.out] at ho;have n0_:=Aside0.mk (IsS77.grown qz1 hg (IsS77.own_ne HI0.out HO218.out (by decide)));have n1_:=Aside0.mk (below_weaken qz3 HL.out hb);have n2_:=Aside0.mk (KeepBut.trans qz2 (KeepBut.of_grown hg g) (Kd.R_base2 HO218.out));have n3_:=Aside0.mk (ho);clear HI0 HB HK HO218;have HI0:=n0_;have HB:=n1_;have HK:=n2_;have HO221:=n3_;clear n0_ n1_ n2_ n3_ ho hb hg hat;obtain ⟨Ao75,co75,eo75⟩:=Kd.R_slice HO221.out;subst eo75)|((with_reducible refine gate_callee (f:=43) rfl ?_);refine goesL_ (some 13) rfl rfl Tryd.func43 (by kernel_rfl) rfl #[.pointer (some ⟨g,0,none⟩),.int .i64 (y219.length:Int)] rfl qz5 ?_;(with_reducible refine (spec_l20Rd_pick.calls k g s0_0 s0_1 (y219.length:Int) t222 t223 w0 _ ?side1 ?side2 A4.out).mono ?_);(case side1=>exact qz1);(case side2=>exact qz3);rintro e w76 ⟨rfl,hi,hb,hk⟩;refine ⟨_,rfl,?_⟩;have n0_:=Aside0.mk (Kd.R_mono (Kd.R_keep (IsS77.apart (show IsS77 w0 _ g s0_0 s0_1 from qz1) qz9 (by decide)) hk (fun _ h=>h.2)) (fun _ h=>h.1));have n1_:=Aside0.mk (KeepBut.trans qz2 hk (.inl rfl));have n2_:=Aside0.mk (hb);have n3_:=Aside0.mk (hi);clear HO221 HK HB HI0;have HO221:=n0_;have HK:=n1_;have HB:=n2_;have HI0:=n3_;clear n0_ n1_ n2_ n3_;(try clear hb);(try clear hb2);(try clear hk);(try clear hi))|((with_reducible refine gate_callee (f:=43) rfl ?_);refine goesL_ (some 15) rfl rfl Tryd.func43 (by kernel_rfl) rfl #[.pointer (some ⟨g,0,none⟩),.int .i64 7] rfl qz5 ?_;(with_reducible refine (spec_l20Rd_pick.calls k g s0_0 t223 7 t224 t225 w0 _ ?side1 ?side2 A5.out).mono ?_);(case side1=>exact qz1);(case side2=>exact qz3);rintro e w77 ⟨rfl,hi,hb,hk⟩;refine ⟨_,rfl,?_⟩;have n0_:=Aside0.mk (Kd.R_mono (Kd.R_keep (IsS77.apart (show IsS77 w0 _ g s0_0 t223 from qz1) qz9 (by decide)) hk (fun _ h=>h.2)) (fun _ h=>h.1));have n1_:=Aside0.mk (KeepBut.trans qz2 hk (.inl rfl));have n2_:=Aside0.mk (hb);have n3_:=Aside0.mk (hi);clear HO221 HK HB HI0;have HO221:=n0_;have HK:=n1_;have HB:=n2_;have HI0:=n3_;clear n0_ n1_ n2_ n3_;(try clear hb);(try clear hb2);(try clear hk);(try clear hi))|((with_reducible refine gate_callee (f:=43) rfl ?_);refine goesL_ (some 72) rfl rfl Tryd.func43 (by kernel_rfl) rfl #[.pointer (some ⟨g,0,none⟩),.int .i64 5] rfl qz5 ?_;(with_reducible refine (spec_l20Rd_pick.calls k g s0_0 t225 5 t248 t249 w0 _ ?side1 ?side2 A68.out).mono ?_);(case side1=>exact qz1);(case side2=>exact qz3);rintro e w78 ⟨rfl,hi,hb,hk⟩;refine ⟨_,rfl,?_⟩;have n0_:=Aside0.mk (Kd.R_mono (Kd.R_keep (IsS77.apart (show IsS77 w0 _ g s0_0 t225 from qz1) qz9 (by decide)) hk (fun _ h=>h.2)) (fun _ h=>h.1));have n1_:=Aside0.mk (KeepBut.trans qz2 hk (.inl rfl));have n2_:=Aside0.mk (hb);have n3_:=Aside0.mk (hi);clear HO221 HK HB HI0;have HO221:=n0_;have HK:=n1_;have HB:=n2_;have HI0:=n3_;clear n0_ n1_ n2_ n3_;(try clear hb);(try clear hb2);(try clear hk);(try clear hi);have p71:0≤(t222:Int):=of_decide_eq_true qz6;have q71:(t222:Int)<((y219.length:Int):Int):=of_decide_eq_true qz6;obtain ⟨go71,co71,eo71,gb71,gl71,cl71,HG71⟩:=Kd.R_form HO221.out (by omega);(first|cases eo71|(injection eo71 with ea_ en_ ec_;(first|subst ea_|(injection ea_ with ea_;subst ea_));subst ec_;clear en_));have GB71:=Aside0.mk gb71;have GG71:=Aside0.mk HG71;clear gb71 gl71 HG71;obtain ⟨ce71,hcl71,hM71,hcc71,hfr71⟩:=Kd.R_elem HO221.out z34 (t222:Int) p71 q71;obtain rfl:=k34_openM hM71;have hx71_0:w78.cell? ⟨go71,(t222:Int).toNat * 3,none⟩=some (.int .i64 ((rd_T34 y219 t222).f0)):=hcc71 0 _ rfl;have hx71_1:w78.cell? ⟨go71,(t222:Int).toNat * 3+1,none⟩=some (.int .i64 ((rd_T34 y219 t222).f1)):=hcc71 1 _ rfl;have hx71_2:w78.cell? ⟨go71,(t222:Int).toNat * 3+2,none⟩=some (.string ((rd_T34 y219 t222).f2)):=hcc71 2 _ rfl;have hf71_0:w78.frozen? ⟨go71,(t222:Int).toNat * 3,none⟩=false:=hfr71 0;have hf71_1:w78.frozen? ⟨go71,(t222:Int).toNat * 3+1,none⟩=false:=hfr71 1;have hf71_2:w78.frozen? ⟨go71,(t222:Int).toNat * 3+2,none⟩=false:=hfr71 2;(try clear hcl71);(try clear hcc71);(try clear hfr71);(try clear hM71);replace p71:=eq_true p71;replace q71:=eq_true q71;have HX79:=Aside0.mk (show Kd.R k34 34 w78 w.heap.size (fun _=>True) (.slice (some ⟨go71,0,none⟩) y219.length co75) y219 from qz9);obtain ⟨ce79,hcl79,hM79,hcc79,hfr79⟩:=Kd.R_elem HX79.out z34 (t222:Int) (of_decide_eq_true qz6) (by have h_:(t222:Int)<((y219.length:Int):Int):=of_decide_eq_true qz6;first|exact h_|(have e_:=(Kd.R_reads' HO221.out).1;omega)|simpa using h_);obtain rfl:=k34_openM hM79;have HP79:=Kd.R_seg HX79.out (t222:Int) (of_decide_eq_true qz6) (by have h_:(t222:Int)<((y219.length:Int):Int):=of_decide_eq_true qz6;first|exact h_|(have e_:=(Kd.R_reads' HO221.out).1;omega)|simpa using h_) (seg:=[.int .i64 t248]) (j:=0) hcl79 hcc79 (show 1≤3 from by decide) (x':=(⟨t248,(rd_T34 y219 t222).f1,(rd_T34 y219 t222).f2⟩:S34)) (k34_mkM _ _ _ (⟨t248,(rd_T34 y219 t222).f1,(rd_T34 y219 t222).f2⟩:S34) ) (fun _ hk=>hk);have hx79_0:=hcc79 0 _ rfl;(try simp only [show (k34).sz=3 from rfl,Nat.mul_one,Nat.add_zero] at hx79_0);have hf79_0:=hfr79 0;(try simp only [show (k34).sz=3 from rfl,Nat.mul_one,Nat.add_zero] at hf79_0);clear hcl79 hcc79 hfr79 hM79)|((with_reducible refine gate_store (t:=3) (p:=74) rfl ?_);refine store_event (t:=3) (p:=74) (v:=?vo_w80) (w1:=(w78.setCell ⟨go71,(t222:Int).toNat * 3,none⟩ (.int .i64 t248))) ?hg ?ho ?hn ?hr ?_;(case ho=>rfl);(case hg=>rfl);(case hn=>rfl);(case hr=>first|(go_simp;done)|(go_simp;rfl));intro w80 hw;have hg:w78.grownBy w80 (some go71):=(by rw [hw];exact HP79.2);have hp_:Kd.R k34 34 w80 w.heap.size (fun _=>True) (.slice (some ⟨go71,0,none⟩) y219.length co75) y250:=(by rw [hw,Ny250.out];exact HP79.1);clear HP79;have n0_:=Aside0.mk (IsS77.grown qz1 hg (IsS77.own_ne HI0.out HO221.out (by decide)));have n1_:=Aside0.mk (hp_);have n2_:=Aside0.mk ((by rw [hw];exact below_set (HB.out) (Nat.le_trans HL.out GB71.out):Below w0.heap.size w0 w80));have n3_:=Aside0.mk (KeepBut.trans qz2 (KeepBut.of_grown hg g) (Kd.R_base2 HO221.out));clear HI0 HO221 HB HK;have HI0:=n0_;have HO221:=n1_;have HB:=n2_;have HK:=n3_;clear n0_ n1_ n2_ n3_ hg hw hp_))
         go_ret
         exact ⟨_,qz8,qz9,qz1,qz3,qz2⟩
        ·rw [if_neg c70] at H
         exact absurd H (by simp)
       ·rw [if_neg c69] at H
        exact absurd H (by simp)
      ·rw [if_neg c67] at H
       have c67b0:(t224 == 4)=false:=beq_eq_false_iff_ne.mpr c67
       have c67b1:(t224 != 4)=true:=bne_iff_ne.mpr c67
       by_cases c81:t224=5
       ·rw [if_pos c81] at H
        have c81b0:(t224 == 5)=true:=beq_iff_eq.mpr c81
        have c81b1:(t224 != 5)=false:=bne_eq_false_iff_eq.mpr c81
        clear c81
        have H':=Aside0.mk H
        clear H
        go_enter Tryd.func45,Tryd.ntmps45
        go_wp2_with (first|((with_reducible refine gate_dst (N:=7) rfl ?_);refine Kd.R_lit k34 _ 34 ?hg (N:=7) ?hd (xs:=([]:List (S34))) (inner:=[]) (ok:=fun _=>True) (okp:=fun _=>True) ?hr ?hp (fun _ hk=>hk) trivial (Below.refl _ _) (Nat.le_refl _) (by simp) ?_;(case hd=>rfl);(case hg=>rfl);(case hr=>first|(go_simp;done)|(go_simp;rfl));(case hp=>exact (Reps.none _ _));intro v217 w82 ho83 hb hg_ hnew_;clear hg_ hnew_;(first|rw [← Ny216.out] at ho83|(simp only [Int.reduceToNat] at ho83;rw [← Ny216.out] at ho83));have n0_:=Aside0.mk (Kd.R_lower ho83 (keep_size (w:=w) (g:=g) (row:=none) qz2));have n1_:=Aside0.mk (IsS77.below qz1 hb);have n2_:=Aside0.mk (KeepBut.trans qz2 (KeepBut.of_below hb g none) (.inl rfl));have n3_:=Aside0.mk (below_step qz3 hb);clear HI0 HK HB;have HO218:=n0_;have HI0:=n1_;have HK:=n2_;have HB:=n3_;clear n0_ n1_ n2_ n3_ hb ho83)|((with_reducible refine gate_builtin (b:=.append) (xs:=#[.tmp 7,.tmp 8]) rfl ?_);at_builtin;refine Kd.R_append_rows k34 w.heap.size rfl (.tmp 7) (.tmp 8) 25 34 (.agg #[(.int .i64 0),(.int .i64 0),(.string ⟨#[]⟩)]) 32 rfl Tryd.underlying25 info34 rfl (by decide) (by omega) v217 y216 l1 _ _ _ (fun _=>True) (fun _=>False) rfl rfl ?aO ?aR (fun _ _ h=>h) (fun _ h=>h.elim) ?aF (Below.refl _ _) ?aS ?aL ?_;(case aR=>exact Kd.C_foot_now HR1.out qz2);(case aF=>exact (fun _ _=>trivial));(case aO=>exact qz32);(case aS=>exact (keep_size (w:=w) (g:=g) (row:=none) qz2));(case aL=>have:=LMc3.out;omega);intro v220 w84 ho hb hg hat;rw [← Ny219.out] at ho;have n0_:=Aside0.mk (IsS77.grown qz1 hg (IsS77.own_ne HI0.out HO218.out (by decide)));have n1_:=Aside0.mk (below_weaken qz3 HL.out hb);have n2_:=Aside0.mk (KeepBut.trans qz2 (KeepBut.of_grown hg g) (Kd.R_base2 HO218.out));have n3_:=Aside0.mk (ho);clear HI0 HB HK HO218;have HI0:=n0_;have HB:=n1_;have HK:=n2_;have HO221:=n3_;clear n0_ n1_ n2_ n3_ ho hb hg hat;obtain ⟨Ao85,co85,eo85⟩:=Kd.R_slice HO221.out;subst eo85)|((with_reducible refine gate_callee (f:=43) rfl ?_);refine goesL_ (some 13) rfl rfl Tryd.func43 (by kernel_rfl) rfl #[.pointer (some ⟨g,0,none⟩),.int .i64 (y219.length:Int)] rfl qz5 ?_;(with_reducible refine (spec_l20Rd_pick.calls k g s0_0 s0_1 (y219.length:Int) t222 t223 w0 _ ?side1 ?side2 A4.out).mono ?_);(case side1=>exact qz1);(case side2=>exact qz3);rintro e w86 ⟨rfl,hi,hb,hk⟩;refine ⟨_,rfl,?_⟩;have n0_:=Aside0.mk (Kd.R_mono (Kd.R_keep (IsS77.apart (show IsS77 w0 _ g s0_0 s0_1 from qz1) qz9 (by decide)) hk (fun _ h=>h.2)) (fun _ h=>h.1));have n1_:=Aside0.mk (KeepBut.trans qz2 hk (.inl rfl));have n2_:=Aside0.mk (hb);have n3_:=Aside0.mk (hi);clear HO221 HK HB HI0;have HO221:=n0_;have HK:=n1_;have HB:=n2_;have HI0:=n3_;clear n0_ n1_ n2_ n3_;(try clear hb);(try clear hb2);(try clear hk);(try clear hi))|((with_reducible refine gate_callee (f:=43) rfl ?_);refine goesL_ (some 15) rfl rfl Tryd.func43 (by kernel_rfl) rfl #[.pointer (some ⟨g,0,none⟩),.int .i64 7] rfl qz5 ?_;(with_reducible refine (spec_l20Rd_pick.calls k g s0_0 t223 7 t224 t225 w0 _ ?side1 ?side2 A5.out).mono ?_);(case side1=>exact qz1);(case side2=>exact qz3);rintro e w87 ⟨rfl,hi,hb,hk⟩;refine ⟨_,rfl,?_⟩;have n0_:=Aside0.mk (Kd.R_mono (Kd.R_keep (IsS77.apart (show IsS77 w0 _ g s0_0 t223 from qz1) qz9 (by decide)) hk (fun _ h=>h.2)) (fun _ h=>h.1));have n1_:=Aside0.mk (KeepBut.trans qz2 hk (.inl rfl));have n2_:=Aside0.mk (hb);have n3_:=Aside0.mk (hi);clear HO221 HK HB HI0;have HO221:=n0_;have HK:=n1_;have HB:=n2_;have HI0:=n3_;clear n0_ n1_ n2_ n3_;(try clear hb);(try clear hb2);(try clear hk);(try clear hi)))
        go_loopg [5] k (fun kq v5 w'=>∃ (x5_1:List (S34)),Aside0 (spec_l20Spoil.l0 kq x5_1 s0_0 t225=some (r1,r2))∧Aside0 (kq≤k)∧Aside0 (Kd.R k34 34 w' w.heap.size (fun _=>True) v5 x5_1)∧Aside0 (IsS77 w0 w' g s0_0 t225)∧Aside0 (KeepBut w w' g none)∧Aside0 (Below w0.heap.size w0 w'))
        case atStart=>exact ⟨(y219),H',⟨Nat.le_refl _⟩,⟨qz9⟩,⟨qz1⟩,⟨qz2⟩,⟨qz3⟩⟩
        case round=>
         clear H'
         try clear c1
         try clear q1
         try clear c2
         try clear p2
         try clear q2
         try clear hx2
         try clear qi2
         try clear c3
         try clear p3
         try clear q3
         try clear hx3
         try clear hf3
         try clear c4
         try clear c5
         try clear p5
         try clear q5
         try clear hx5
         try clear hf5
         try clear c6
         try clear c6b0
         try clear c6b1
         try clear p6
         try clear hx6
         try clear hf6
         try clear c7
         try clear c7b0
         try clear c7b1
         try clear p7
         try clear q7
         try clear hx7
         try clear hf7
         try clear c8
         try clear c8b0
         try clear c8b1
         try clear q15
         try clear c16
         try clear c16b0
         try clear c16b1
         try clear c17
         try clear c17b0
         try clear c18
         try clear c18b0
         try clear c19
         try clear p22
         try clear q22
         try clear hx22
         try clear p23
         try clear q23
         try clear hx23
         try clear qi23
         try clear p24
         try clear q24
         try clear hx24
         try clear c27
         try clear c27b0
         try clear c27b1
         try clear c28
         try clear c28b0
         try clear c29
         try clear c29b0
         try clear c31
         try clear c31b0
         try clear c32
         try clear c32b0
         try clear c33
         try clear p33
         try clear q33
         try clear hx33
         try clear hf33
         try clear c43
         try clear c45
         try clear c47
         try clear c48
         try clear c48b0
         try clear c48b1
         try clear c50
         try clear c50b0
         try clear c51
         try clear c51b0
         try clear c52
         try clear c52b0
         try clear c53
         try clear c53b0
         try clear c54
         try clear p54
         try clear q54
         try clear hx54
         try clear hf54
         try clear p64
         try clear c65
         try clear hx65
         try clear hf65
         try clear c67
         try clear c67b0
         try clear c67b1
         try clear c69
         try clear c69b0
         try clear c70
         try clear c70b0
         try clear c71
         try clear p71
         try clear q71
         try clear hx71
         try clear hf71
         try clear c79
         try clear hx79
         try clear hf79
         try clear c81
         try clear c81b0
         try clear c81b1
         try clear hx229_0
         try clear hx229_1
         try clear hx229_2
         try clear hx233_0
         try clear hx233_1
         try clear hx233_2
         try clear hx239_0
         try clear hx246_0
         try clear hx33_0
         try clear hx33_1
         try clear hx33_2
         try clear hx54_0
         try clear hx54_1
         try clear hx54_2
         try clear hx65_2
         try clear hx71_0
         try clear hx71_1
         try clear hx71_2
         try clear hx79_0
         try clear p229
         try clear p233
         try clear p239
         try clear p246
         try clear p33
         try clear p54
         try clear p71
         try clear q15
         try clear q229
         try clear q233
         try clear q239
         try clear q246
         try clear q33
         try clear q54
         try clear q71
         obtain ⟨x5_1,HA,HK1,HO_5,HI0,HK,HB⟩:=hrel
         cases gk with
         | zero=>exact absurd HA.out (by simp [spec_l20Spoil.l0])
         | succ k1=>
          have H:=HA.out
          clear HA
          simp only [spec_l20Spoil.l0] at H
          by_cases c88:(x5_1.length:Int)≤40
          ·rw [if_pos c88] at H
           have c88b0:decide ((x5_1.length:Int)≤40)=true:=decide_eq_true c88
           have c88b1:decide (x5_1.length≤40)=true:=decide_eq_true (by omega)
           clear c88
           by_cases c89:x5_1.length<4398046511104
           ·rw [if_pos c89] at H
            have LMc89:=Aside0.mk c89
            clear c89
            obtain ⟨y251,hy251⟩:∃ y_:List (S34),y_=(x5_1++[(⟨3,1,(⟨#[102]⟩:ByteArray)⟩:S34)]):=⟨_,rfl⟩
            replace H:(spec_l20Spoil.l0 k1 y251 s0_0 t225)=some (r1,r2):=by first|(rw [hy251];exact H)|exact H
            have Ny251:=Aside0.mk hy251
            clear hy251
            have H':=Aside0.mk H
            clear H
            obtain ⟨Ao90,co90,eo90⟩:=Kd.R_slice HO_5.out
            subst eo90
            go_wp2_with (first|((with_reducible refine gate_builtin (b:=.append) (xs:=#[.tmp 80,.tmp 82]) rfl ?_);at_builtin;refine Kd.R_append k34 w.heap.size rfl (.tmp 80) (.tmp 82) 25 34 (.agg #[(.int .i64 0),(.int .i64 0),(.string ⟨#[]⟩)]) 32 rfl Tryd.underlying25 info34 rfl (by decide) (by omega) (.slice Ao90 x5_1.length co90) x5_1 (⟨3,1,(⟨#[102]⟩:ByteArray)⟩:S34) [.int .i64 3,.int .i64 1,.string (⟨#[102]⟩:ByteArray)] (fun _=>True) (fun _=>False) rfl rfl ?aP (fun _ hk=>hk.elim) ?aF ?aO (Below.refl _ _) ?aS ?aL ?_;(case aP=>exact k34_mkM _ _ _ (⟨3,1,(⟨#[102]⟩:ByteArray)⟩:S34));(case aF=>exact (fun _ _=>trivial));(case aO=>(with_reducible repeat (first|apply Kd.R_alloc|apply Kd.R_drewN|apply Kd.R_drew));exact HO_5.out);(case aS=>exact (keep_size (w:=w) (g:=g) (row:=none) qz2));(case aL=>have:=LMc89.out;omega);intro v252 w91 ho hb hg hat;rw [← Ny251.out] at ho;have n0_:=Aside0.mk (IsS77.grown qz1 hg (IsS77.own_ne HI0.out HO_5.out (by decide)));have n1_:=Aside0.mk (below_weaken qz3 HL.out hb);have n2_:=Aside0.mk (KeepBut.trans qz2 (KeepBut.of_grown hg g) (Kd.R_base2 HO_5.out));have n3_:=Aside0.mk (ho);clear HI0 HB HK HO_5;have HI0:=n0_;have HB:=n1_;have HK:=n2_;have HO253:=n3_;clear n0_ n1_ n2_ n3_ ho hb hg hat))
            go_roundg k1
            case measure=>have:=HK1.out;omega
            case rel=>exact ⟨(y251),H',⟨by have:=HK1.out;omega⟩,⟨by (with_reducible repeat (first|apply Kd.R_alloc|apply Kd.R_drewN|apply Kd.R_drew));exact HO253.out⟩,⟨qz1⟩,⟨qz2⟩,⟨qz3⟩⟩
           ·rw [if_neg c89] at H
            exact absurd H (by simp)
          ·rw [if_neg c88] at H
           have c88b0:decide ((x5_1.length:Int)≤40)=false:=decide_eq_false c88
           have c88b1:decide (x5_1.length≤40)=false:=decide_eq_false (by omega)
           clear c88
           simp only [Option.some.injEq,Prod.mk.injEq] at H
           obtain ⟨rfl,rfl⟩:=H
           obtain ⟨Ao92,co92,eo92⟩:=Kd.R_slice HO_5.out
           subst eo92
           go_wp2
           go_ret
           exact ⟨_,qz8,by (with_reducible repeat (first|apply Kd.R_alloc|apply Kd.R_drewN|apply Kd.R_drew));exact HO_5.out,qz1,qz3,qz2⟩
       ·rw [if_neg c81] at H
        have c81b0:(t224 == 5)=false:=beq_eq_false_iff_ne.mpr c81
        have c81b1:(t224 != 5)=true:=bne_iff_ne.mpr c81
        obtain ⟨y254,hy254⟩:∃ y_:List Int,y_=(([99999,100000,(-1)]:List Int)):=⟨_,rfl⟩
        replace H:((spec_l20Rd_pick.f k s0_0 t225 3).bind fun bt257=>(if 0≤bt257.1 then (if bt257.1<(y254.length:Int) then (if 0≤t222 then (if t222<(y219.length:Int) then (some ((y219.set (t222:Int).toNat (⟨1,rd y254 bt257.1,(⟨#[]⟩:ByteArray)⟩:S34)),bt257.2)) else (none)) else (none)) else (none)) else (none)))=some (r1,r2):=by first|(rw [hy254];exact H)|exact H
        have Ny254:=Aside0.mk hy254
        clear hy254
        replace H:=Option.bind_eq_some_iff.mp H
        obtain ⟨⟨t257,t258⟩,A930,H⟩:=H
        try dsimp only at H
        have A93:=Aside0.mk A930
        clear A930
        by_cases c94:0≤t257
        ·rw [if_pos c94] at H
         have c94b0:decide (0≤t257)=true:=decide_eq_true c94
         clear c94
         by_cases c95:t257<(y254.length:Int)
         ·rw [if_pos c95] at H
          have c95b0:decide (t257<(y254.length:Int))=true:=decide_eq_true c95
          clear c95
          by_cases c96:0≤t222
          ·rw [if_pos c96] at H
           have c96b0:decide (0≤t222)=true:=decide_eq_true c96
           clear c96
           by_cases c97:t222<(y219.length:Int)
           ·rw [if_pos c97] at H
            have c97b0:decide (t222<(y219.length:Int))=true:=decide_eq_true c97
            clear c97
            obtain ⟨y260,hy260⟩:∃ y_:List (S34),y_=(y219.set (t222:Int).toNat (⟨1,rd y254 t257,(⟨#[]⟩:ByteArray)⟩:S34)):=⟨_,rfl⟩
            replace H:(some (y260,t258))=some (r1,r2):=by first|(rw [hy260];exact H)|exact H
            have Ny260:=Aside0.mk hy260
            clear hy260
            simp only [Option.some.injEq,Prod.mk.injEq] at H
            obtain ⟨rfl,rfl⟩:=H
            go_enter Tryd.func45,Tryd.ntmps45
            go_wp2_with (first|((with_reducible refine gate_dst (N:=7) rfl ?_);refine Kd.R_lit k34 _ 34 ?hg (N:=7) ?hd (xs:=([]:List (S34))) (inner:=[]) (ok:=fun _=>True) (okp:=fun _=>True) ?hr ?hp (fun _ hk=>hk) trivial (Below.refl _ _) (Nat.le_refl _) (by simp) ?_;(case hd=>rfl);(case hg=>rfl);(case hr=>first|(go_simp;done)|(go_simp;rfl));(case hp=>exact (Reps.none _ _));intro v217 w99 ho100 hb hg_ hnew_;clear hg_ hnew_;(first|rw [← Ny216.out] at ho100|(simp only [Int.reduceToNat] at ho100;rw [← Ny216.out] at ho100));have n0_:=Aside0.mk (Kd.R_lower ho100 (keep_size (w:=w) (g:=g) (row:=none) qz2));have n1_:=Aside0.mk (IsS77.below qz1 hb);have n2_:=Aside0.mk (KeepBut.trans qz2 (KeepBut.of_below hb g none) (.inl rfl));have n3_:=Aside0.mk (below_step qz3 hb);clear HI0 HK HB;have HO218:=n0_;have HI0:=n1_;have HK:=n2_;have HB:=n3_;clear n0_ n1_ n2_ n3_ hb ho100)|((with_reducible refine gate_builtin (b:=.append) (xs:=#[.tmp 7,.tmp 8]) rfl ?_);at_builtin;refine Kd.R_append_rows k34 w.heap.size rfl (.tmp 7) (.tmp 8) 25 34 (.agg #[(.int .i64 0),(.int .i64 0),(.string ⟨#[]⟩)]) 32 rfl Tryd.underlying25 info34 rfl (by decide) (by omega) v217 y216 l1 _ _ _ (fun _=>True) (fun _=>False) rfl rfl ?aO ?aR (fun _ _ h=>h) (fun _ h=>h.elim) ?aF (Below.refl _ _) ?aS ?aL ?_;(case aR=>exact Kd.C_foot_now HR1.out qz2);(case aF=>exact (fun _ _=>trivial));(case aO=>exact qz32);(case aS=>exact (keep_size (w:=w) (g:=g) (row:=none) qz2));(case aL=>have:=LMc3.out;omega);intro v220 w101 ho hb hg hat;rw [← Ny219.out] at ho;have n0_:=Aside0.mk (IsS77.grown qz1 hg (IsS77.own_ne HI0.out HO218.out (by decide)));have n1_:=Aside0.mk (below_weaken qz3 HL.out hb);have n2_:=Aside0.mk (KeepBut.trans qz2 (KeepBut.of_grown hg g) (Kd.R_base2 HO218.out));have n3_:=Aside0.mk (ho);clear HI0 HB HK HO218;have HI0:=n0_;have HB:=n1_;have HK:=n2_;have HO221:=n3_;clear n0_ n1_ n2_ n3_ ho hb hg hat;obtain ⟨Ao102,co102,eo102⟩:=Kd.R_slice HO221.out;subst eo102)|((with_reducible refine gate_callee (f:=43) rfl ?_);refine goesL_ (some 13) rfl rfl Tryd.func43 (by kernel_rfl) rfl #[.pointer (some ⟨g,0,none⟩),.int .i64 (y219.length:Int)] rfl qz5 ?_;(with_reducible refine (spec_l20Rd_pick.calls k g s0_0 s0_1 (y219.length:Int) t222 t223 w0 _ ?side1 ?side2 A4.out).mono ?_);(case side1=>exact qz1);(case side2=>exact qz3);rintro e w103 ⟨rfl,hi,hb,hk⟩;refine ⟨_,rfl,?_⟩;have n0_:=Aside0.mk (Kd.R_mono (Kd.R_keep (IsS77.apart (show IsS77 w0 _ g s0_0 s0_1 from qz1) qz9 (by decide)) hk (fun _ h=>h.2)) (fun _ h=>h.1));have n1_:=Aside0.mk (KeepBut.trans qz2 hk (.inl rfl));have n2_:=Aside0.mk (hb);have n3_:=Aside0.mk (hi);clear HO221 HK HB HI0;have HO221:=n0_;have HK:=n1_;have HB:=n2_;have HI0:=n3_;clear n0_ n1_ n2_ n3_;(try clear hb);(try clear hb2);(try clear hk);(try clear hi))|((with_reducible refine gate_callee (f:=43) rfl ?_);refine goesL_ (some 15) rfl rfl Tryd.func43 (by kernel_rfl) rfl #[.pointer (some ⟨g,0,none⟩),.int .i64 7] rfl qz5 ?_;(with_reducible refine (spec_l20Rd_pick.calls k g s0_0 t223 7 t224 t225 w0 _ ?side1 ?side2 A5.out).mono ?_);(case side1=>exact qz1);(case side2=>exact qz3);rintro e w104 ⟨rfl,hi,hb,hk⟩;refine ⟨_,rfl,?_⟩;have n0_:=Aside0.mk (Kd.R_mono (Kd.R_keep (IsS77.apart (show IsS77 w0 _ g s0_0 t223 from qz1) qz9 (by decide)) hk (fun _ h=>h.2)) (fun _ h=>h.1));have n1_:=Aside0.mk (KeepBut.trans qz2 hk (.inl rfl));have n2_:=Aside0.mk (hb);have n3_:=Aside0.mk (hi);clear HO221 HK HB HI0;have HO221:=n0_;have HK:=n1_;have HB:=n2_;have HI0:=n3_;clear n0_ n1_ n2_ n3_;(try clear hb);(try clear hb2);(try clear hk);(try clear hi))|((with_reducible refine gate_dst (N:=18) rfl ?_);refine Kd.R_lit (Kd.int .i64) _ 3 ?hg (N:=18) ?hd (xs:=([99999,100000,(-1)]:List Int)) (inner:=[.int .i64 99999,.int .i64 100000,.int .i64 (-1)]) (ok:=fun _=>True) (okp:=fun _=>True) ?hr ?hp (fun _ hk=>hk) trivial (Below.refl _ _) (Nat.le_refl _) (by simp) ?_;(case hd=>rfl);(case hg=>rfl);(case hr=>first|(go_simp;done)|(go_simp;rfl));(case hp=>exact (Reps.one (show Kd.M (Kd.int .i64) _ _ _ 99999 [.int .i64 99999] from rfl) (Reps.one (show Kd.M (Kd.int .i64) _ _ _ 100000 [.int .i64 100000] from rfl) (Reps.one (show Kd.M (Kd.int .i64) _ _ _ (-1) [.int .i64 (-1)] from rfl) (Reps.none _ _)))));intro v255 w105 ho106 hb hg_ hnew_;clear hg_ hnew_;(first|rw [← Ny254.out] at ho106|(simp only [Int.reduceToNat] at ho106;rw [← Ny254.out] at ho106));have n0_:=Aside0.mk (Kd.R_below qz9 hb);have n1_:=Aside0.mk (Kd.R_lower ho106 (keep_size (w:=w) (g:=g) (row:=none) qz2));have n2_:=Aside0.mk (IsS77.below qz1 hb);have n3_:=Aside0.mk (KeepBut.trans qz2 (KeepBut.of_below hb g none) (.inl rfl));have n4_:=Aside0.mk (below_step qz3 hb);clear HO221 HI0 HK HB;have HO221:=n0_;have HO256:=n1_;have HI0:=n2_;have HK:=n3_;have HB:=n4_;clear n0_ n1_ n2_ n3_ n4_ hb ho106)|((with_reducible refine gate_callee (f:=43) rfl ?_);refine goesL_ (some 20) rfl rfl Tryd.func43 (by kernel_rfl) rfl #[.pointer (some ⟨g,0,none⟩),.int .i64 3] rfl qz5 ?_;(with_reducible refine (spec_l20Rd_pick.calls k g s0_0 t225 3 t257 t258 w0 _ ?side1 ?side2 A93.out).mono ?_);(case side1=>exact qz1);(case side2=>exact qz3);rintro e w107 ⟨rfl,hi,hb,hk⟩;refine ⟨_,rfl,?_⟩;have n0_:=Aside0.mk (Kd.R_mono (Kd.R_keep (IsS77.apart (show IsS77 w0 _ g s0_0 t225 from qz1) qz9 (by decide)) hk (fun _ h=>h.2)) (fun _ h=>h.1));have n1_:=Aside0.mk (Kd.R_mono (Kd.R_keep (IsS77.apart (show IsS77 w0 _ g s0_0 t225 from qz1) (by (with_reducible repeat (first|apply Kd.R_alloc|apply Kd.R_drewN|apply Kd.R_drew));exact HO256.out) (by decide)) hk (fun _ h=>h.2)) (fun _ h=>h.1));have n2_:=Aside0.mk (KeepBut.trans qz2 hk (.inl rfl));have n3_:=Aside0.mk (hb);have n4_:=Aside0.mk (hi);clear HO221 HO256 HK HB HI0;have HO221:=n0_;have HO256:=n1_;have HK:=n2_;have HB:=n3_;have HI0:=n4_;clear n0_ n1_ n2_ n3_ n4_;(try clear hb);(try clear hb2);(try clear hk);(try clear hi);obtain ⟨Ao108,co108,eo108⟩:=Kd.R_slice HO256.out;subst eo108;have p259:0≤(t257:Int):=of_decide_eq_true qz6;have q259:t257<(y254.length:Int):=of_decide_eq_true qz6;obtain ⟨ad259,e259,hx259_0⟩:=Kd.at_int (Kd.R_reads' HO256.out).2.2 t257 p259 q259;cases e259;replace p259:=eq_true p259;replace q259:=eq_true q259;have p98:0≤(t222:Int):=of_decide_eq_true qz6;have q98:(t222:Int)<((y219.length:Int):Int):=of_decide_eq_true qz6;obtain ⟨go98,co98,eo98,gb98,gl98,cl98,HG98⟩:=Kd.R_form HO221.out (by omega);(first|cases eo98|(injection eo98 with ea_ en_ ec_;(first|subst ea_|(injection ea_ with ea_;subst ea_));subst ec_;clear en_));have GB98:=Aside0.mk gb98;have GG98:=Aside0.mk HG98;clear gb98 gl98 HG98;obtain ⟨ce98,hcl98,hM98,hcc98,hfr98⟩:=Kd.R_elem HO221.out z34 (t222:Int) p98 q98;obtain rfl:=k34_openM hM98;have hx98_0:w107.cell? ⟨go98,(t222:Int).toNat * 3,none⟩=some (.int .i64 ((rd_T34 y219 t222).f0)):=hcc98 0 _ rfl;have hx98_1:w107.cell? ⟨go98,(t222:Int).toNat * 3+1,none⟩=some (.int .i64 ((rd_T34 y219 t222).f1)):=hcc98 1 _ rfl;have hx98_2:w107.cell? ⟨go98,(t222:Int).toNat * 3+2,none⟩=some (.string ((rd_T34 y219 t222).f2)):=hcc98 2 _ rfl;have hf98_0:w107.frozen? ⟨go98,(t222:Int).toNat * 3,none⟩=false:=hfr98 0;have hf98_1:w107.frozen? ⟨go98,(t222:Int).toNat * 3+1,none⟩=false:=hfr98 1;have hf98_2:w107.frozen? ⟨go98,(t222:Int).toNat * 3+2,none⟩=false:=hfr98 2;(try clear hcl98);(try clear hcc98);(try clear hfr98);(try clear hM98);replace p98:=eq_true p98;replace q98:=eq_true q98;have HX109:=Aside0.mk (show Kd.R k34 34 w107 w.heap.size (fun _=>True) (.slice (some ⟨go98,0,none⟩) y219.length co102) y219 from qz9);obtain ⟨ce109,hcl109,hM109,hcc109,hfr109⟩:=Kd.R_elem HX109.out z34 (t222:Int) (of_decide_eq_true qz6) (by have h_:(t222:Int)<((y219.length:Int):Int):=of_decide_eq_true qz6;first|exact h_|(have e_:=(Kd.R_reads' HO221.out).1;omega)|simpa using h_);obtain rfl:=k34_openM hM109;have HP109:=Kd.R_seg HX109.out (t222:Int) (of_decide_eq_true qz6) (by have h_:(t222:Int)<((y219.length:Int):Int):=of_decide_eq_true qz6;first|exact h_|(have e_:=(Kd.R_reads' HO221.out).1;omega)|simpa using h_) (seg:=[.int .i64 1,.int .i64 (rd y254 t257),.string (⟨#[]⟩:ByteArray)]) (j:=0) hcl109 hcc109 (show 3≤3 from by decide) (x':=(⟨1,rd y254 t257,(⟨#[]⟩:ByteArray)⟩:S34)) (k34_mkM _ _ _ (⟨1,rd y254 t257,(⟨#[]⟩:ByteArray)⟩:S34) ) (fun _ hk=>hk);have hx109_0:=hcc109 0 _ rfl;(try simp only [show (k34).sz=3 from rfl,Nat.mul_one,Nat.add_zero] at hx109_0);have hf109_0:=hfr109 0;(try simp only [show (k34).sz=3 from rfl,Nat.mul_one,Nat.add_zero] at hf109_0);have hx109_1:=hcc109 1 _ rfl;(try simp only [show (k34).sz=3 from rfl,Nat.mul_one,Nat.add_zero] at hx109_1);have hf109_1:=hfr109 1;(try simp only [show (k34).sz=3 from rfl,Nat.mul_one,Nat.add_zero] at hf109_1);have hx109_2:=hcc109 2 _ rfl;(try simp only [show (k34).sz=3 from rfl,Nat.mul_one,Nat.add_zero] at hx109_2);have hf109_2:=hfr109 2;(try simp only [show (k34).sz=3 from rfl,Nat.mul_one,Nat.add_zero] at hf109_2);clear hcl109 hcc109 hfr109 hM109)|((with_reducible refine gate_store (t:=34) (p:=24) rfl ?_);refine store_event (t:=34) (p:=24) (v:=?vo_w110) (w1:=(((w107.setCell ⟨go98,(t222:Int).toNat * 3,none⟩ (.int .i64 1)).setCell ⟨go98,(t222:Int).toNat * 3+1,none⟩ (.int .i64 (rd y254 t257))).setCell ⟨go98,(t222:Int).toNat * 3+2,none⟩ (.string (⟨#[]⟩:ByteArray)))) ?hg ?ho ?hn ?hr ?_;(case ho=>rfl);(case hg=>rfl);(case hn=>rfl);(case hr=>first|(go_simp;done)|(go_simp;rfl));intro w110 hw;have hg:w107.grownBy w110 (some go98):=(by rw [hw];exact HP109.2);have hp_:Kd.R k34 34 w110 w.heap.size (fun _=>True) (.slice (some ⟨go98,0,none⟩) y219.length co102) y260:=(by rw [hw,Ny260.out];exact HP109.1);clear HP109;have n0_:=Aside0.mk (IsS77.grown qz1 hg (IsS77.own_ne HI0.out HO221.out (by decide)));have n1_:=Aside0.mk (hp_);have n2_:=Aside0.mk (Kd.R_over' (v:=(.slice (some ⟨go98,0,none⟩) y219.length co102)) (by (with_reducible repeat (first|apply Kd.R_alloc|apply Kd.R_drewN|apply Kd.R_drew));exact HO256.out) (Kd.R_typed HO221.out) (by decide) hg);have n3_:=Aside0.mk ((by rw [hw];exact below_set (below_set (below_set (HB.out) (Nat.le_trans HL.out GB98.out)) (Nat.le_trans HL.out GB98.out)) (Nat.le_trans HL.out GB98.out):Below w0.heap.size w0 w110));have n4_:=Aside0.mk (KeepBut.trans qz2 (KeepBut.of_grown hg g) (Kd.R_base2 HO221.out));clear HI0 HO221 HO256 HB HK;have HI0:=n0_;have HO221:=n1_;have HO256:=n2_;have HB:=n3_;have HK:=n4_;clear n0_ n1_ n2_ n3_ n4_ hg hw hp_))
            go_ret
            exact ⟨_,qz8,qz9,qz1,qz3,qz2⟩
           ·rw [if_neg c97] at H
            exact absurd H (by simp)
          ·rw [if_neg c96] at H
           exact absurd H (by simp)
         ·rw [if_neg c95] at H
          exact absurd H (by simp)
        ·rw [if_neg c94] at H
         exact absurd H (by simp)
 ·rw [if_neg c3] at H
  exact absurd H (by simp)

end Go.Proofs.YtibencknfheplaaDoor.P
