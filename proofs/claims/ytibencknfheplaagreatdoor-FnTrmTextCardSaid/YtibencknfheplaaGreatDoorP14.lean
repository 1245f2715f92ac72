/- Contracts of functions of the program: each as a Lean function, and that its call does what that says; printed by cprint.py (this session) over print.py of the kit. Conditions: the hypotheses of each theorem. -/
import Derived.Test.YtibencknfheplaaGreatDoorVZ
import Derived.Test.YtibencknfheplaaGreatDoorP0
import Derived.Test.YtibencknfheplaaGreatDoorP12
namespace Go.Proofs.YtibencknfheplaaGreatDoor.P
open Go.RowKit Go.Proofs.YtibencknfheplaaGreatDoorW.PrintWords Go.Proofs.YtibencknfheplaaGreatDoorW.PrintLast Go.Proofs.YtibencknfheplaaGreatDoorW.PrintMore
attribute [local go_sem] max2_int min2_int max_two min_two max_three min_three max_four min_four   -- for this text's walks alone
set_option linter.unusedVariables false
set_option linter.unusedSimpArgs false

/-! ### spec_l20Spoil: function 32 -/
def spec_l20Spoil.l0:Nat→List (S43)→List Int→Int→Option ((List (S43)) × Int)
 | 0,_,_,_=>none
 | k+1,x5,x1000,x1001=>if (x5.length:Int)≤40 then (if x5.length<4398046511104 then (spec_l20Spoil.l0 k (x5++[(⟨3,1,(⟨#[102]⟩:ByteArray)⟩:S43)]) x1000 x1001) else (none)) else (some (x5,x1001))
def spec_l20Spoil.f (k:Nat) (s0_0:List Int) (s0_1:Int) (l1:List (S43)):Option ((List (S43)) × Int):=(some (([]:List (S43)):List (S43))).bind fun y147=>(if y147.length+l1.length<4398046511104 then ((some (y147++l1:List (S43))).bind fun y150=>((spec_l20Rd_pick.f k s0_0 s0_1 (y150.length:Int)).bind fun bt153=>((spec_l20Rd_pick.f k s0_0 bt153.2 7).bind fun bt155=>(if bt155.1=0 then (if 0≤bt153.1 then (if bt153.1≤(y150.length:Int) then (some ((y150.take (bt153.1:Int).toNat),bt155.2)) else (none)) else (none)) else (if bt155.1=1 then (if 0≤bt153.1 then (if bt153.1<(y150.length:Int) then (if y150.length<4398046511104 then (some ((y150++[(⟨(rd_T43 y150 bt153.1).f0,(rd_T43 y150 bt153.1).f1,(rd_T43 y150 bt153.1).f2⟩:S43)]),bt155.2)) else (none)) else (none)) else (none)) else (if bt155.1=2 then (if 0≤bt153.1 then (if bt153.1<(y150.length:Int) then ((some (([1,(-1),99999,(-99999)]:List Int):List Int)).bind fun y165=>((spec_l20Rd_pick.f k s0_0 bt155.2 4).bind fun bt168=>(if 0≤bt168.1 then (if bt168.1<(y165.length:Int) then (some ((y150.set (bt153.1:Int).toNat (⟨(rd_T43 y150 bt153.1).f0,wrap64 (((rd_T43 y150 bt153.1).f1)+(rd y165 bt168.1)),(rd_T43 y150 bt153.1).f2⟩:S43)),bt168.2)) else (none)) else (none)))) else (none)) else (none)) else (if bt155.1=3 then ((some (([(⟨#[]⟩:ByteArray),(⟨#[116,111,111,108,111,110,103,110,97,109,101]⟩:ByteArray),(⟨#[65]⟩:ByteArray),(⟨#[97]⟩:ByteArray)]:List ByteArray):List ByteArray)).bind fun y172=>((spec_l20Rd_pick.f k s0_0 bt155.2 4).bind fun bt175=>(if 0≤bt175.1 then (if bt175.1<(y172.length:Int) then (if 0≤bt153.1 then (if bt153.1<(y150.length:Int) then (some ((y150.set (bt153.1:Int).toNat (⟨(rd_T43 y150 bt153.1).f0,(rd_T43 y150 bt153.1).f1,rdOf ByteArray.empty y172 bt175.1⟩:S43)),bt175.2)) else (none)) else (none)) else (none)) else (none)))) else (if bt155.1=4 then ((spec_l20Rd_pick.f k s0_0 bt155.2 5).bind fun bt179=>(if 0≤bt153.1 then (if bt153.1<(y150.length:Int) then (some ((y150.set (bt153.1:Int).toNat (⟨bt179.1,(rd_T43 y150 bt153.1).f1,(rd_T43 y150 bt153.1).f2⟩:S43)),bt179.2)) else (none)) else (none))) else (if bt155.1=5 then (spec_l20Spoil.l0 k y150 s0_0 bt155.2) else ((some (([99999,100000,(-1)]:List Int):List Int)).bind fun y185=>((spec_l20Rd_pick.f k s0_0 bt155.2 3).bind fun bt188=>(if 0≤bt188.1 then (if bt188.1<(y185.length:Int) then (if 0≤bt153.1 then (if bt153.1<(y150.length:Int) then (some ((y150.set (bt153.1:Int).toNat (⟨1,rd y185 bt188.1,(⟨#[]⟩:ByteArray)⟩:S43)),bt188.2)) else (none)) else (none)) else (none)) else (none))))))))))))) else (none))
def spec_l20Spoil.T10:Bool × List (List Nat × List Nat):=(true,[([],[]),([],[]),([],[]),([],[]),([2,3],[2,3]),([4],[4]),([5],[5]),([],[]),([],[]),([8],[8]),([7,9],[7,9]),([10],[10]),([6,11],[6,11]),([0,1,0,1,2,3,4,5,6,7,8,9,10,11,12],[0,1]),([13,0,1,2,3,4,5,6,7,8,9,10,11,12],[13]),([14,12,9,0,1,2,3,4,5,6,7,8,9,10,11,12],[12,14])])
def spec_l20Spoil.B10:List Nat:=[0,0,0,0,12,28,60,0,0,256,896,1920,4092,8191,16383,32767]
theorem spec_l20Spoil.tab10:rtab .any (opsOf Tryz.f32 10)=spec_l20Spoil.T10:=by kernel_rfl
theorem spec_l20Spoil.bits10:waitsOk spec_l20Spoil.T10.2 spec_l20Spoil.B10=true:=by kernel_rfl
set_option maxHeartbeats 8000000 in
set_option maxRecDepth 100000 in
theorem spec_l20Spoil.calls (k:Nat) (g:Nat) (s0_0:List Int) (s0_1:Int) (A1:Option Addr) (c1:Nat) (l1:List (S43)) (r1:List (S43)) (r2:Int) (w0 w:World) (hI:IsS61 w0 w g s0_0 s0_1) (hB:Below w0.heap.size w0 w) (hr1:∀ W_,KeepBut w W_ g none→Kd.C k43 W_ A1 l1.length l1) (hc1:l1.length≤c1) (h:spec_l20Spoil.f k s0_0 s0_1 l1=some (r1,r2)) :
  Calls Tryz.prog 32 #[.pointer (some ⟨g,0,none⟩),.slice A1 l1.length c1] w fun e w'=>∃ v0_:Value,e = .returned (v0_)∧Kd.R k43 43 w' w.heap.size (fun _=>True) v0_ r1∧IsS61 w0 w' g s0_0 r2∧Below w0.heap.size w0 w'∧KeepBut w w' g none:=by
 have hu43:=Tryz.underlying43
 have HR1:=Aside0.mk hr1
 have HC1:=Aside0.mk hc1
 clear hr1 hc1
 have HI0:=Aside0.mk hI
 have HK:=Aside0.mk (KeepBut.refl w g none)
 have HL:=Aside0.mk hB.size
 clear hI
 have HW0:=Aside0.mk hB.size
 have HB:=Aside0.mk hB
 clear hB
 have H:((some (([]:List (S43)):List (S43))).bind fun y147=>(if y147.length+l1.length<4398046511104 then ((some (y147++l1:List (S43))).bind fun y150=>((spec_l20Rd_pick.f k s0_0 s0_1 (y150.length:Int)).bind fun bt153=>((spec_l20Rd_pick.f k s0_0 bt153.2 7).bind fun bt155=>(if bt155.1=0 then (if 0≤bt153.1 then (if bt153.1≤(y150.length:Int) then (some ((y150.take (bt153.1:Int).toNat),bt155.2)) else (none)) else (none)) else (if bt155.1=1 then (if 0≤bt153.1 then (if bt153.1<(y150.length:Int) then (if y150.length<4398046511104 then (some ((y150++[(⟨(rd_T43 y150 bt153.1).f0,(rd_T43 y150 bt153.1).f1,(rd_T43 y150 bt153.1).f2⟩:S43)]),bt155.2)) else (none)) else (none)) else (none)) else (if bt155.1=2 then (if 0≤bt153.1 then (if bt153.1<(y150.length:Int) then ((some (([1,(-1),99999,(-99999)]:List Int):List Int)).bind fun y165=>((spec_l20Rd_pick.f k s0_0 bt155.2 4).bind fun bt168=>(if 0≤bt168.1 then (if bt168.1<(y165.length:Int) then (some ((y150.set (bt153.1:Int).toNat (⟨(rd_T43 y150 bt153.1).f0,wrap64 (((rd_T43 y150 bt153.1).f1)+(rd y165 bt168.1)),(rd_T43 y150 bt153.1).f2⟩:S43)),bt168.2)) else (none)) else (none)))) else (none)) else (none)) else (if bt155.1=3 then ((some (([(⟨#[]⟩:ByteArray),(⟨#[116,111,111,108,111,110,103,110,97,109,101]⟩:ByteArray),(⟨#[65]⟩:ByteArray),(⟨#[97]⟩:ByteArray)]:List ByteArray):List ByteArray)).bind fun y172=>((spec_l20Rd_pick.f k s0_0 bt155.2 4).bind fun bt175=>(if 0≤bt175.1 then (if bt175.1<(y172.length:Int) then (if 0≤bt153.1 then (if bt153.1<(y150.length:Int) then (some ((y150.set (bt153.1:Int).toNat (⟨(rd_T43 y150 bt153.1).f0,(rd_T43 y150 bt153.1).f1,rdOf ByteArray.empty y172 bt175.1⟩:S43)),bt175.2)) else (none)) else (none)) else (none)) else (none)))) else (if bt155.1=4 then ((spec_l20Rd_pick.f k s0_0 bt155.2 5).bind fun bt179=>(if 0≤bt153.1 then (if bt153.1<(y150.length:Int) then (some ((y150.set (bt153.1:Int).toNat (⟨bt179.1,(rd_T43 y150 bt153.1).f1,(rd_T43 y150 bt153.1).f2⟩:S43)),bt179.2)) else (none)) else (none))) else (if bt155.1=5 then (spec_l20Spoil.l0 k y150 s0_0 bt155.2) else ((some (([99999,100000,(-1)]:List Int):List Int)).bind fun y185=>((spec_l20Rd_pick.f k s0_0 bt155.2 3).bind fun bt188=>(if 0≤bt188.1 then (if bt188.1<(y185.length:Int) then (if 0≤bt153.1 then (if bt153.1<(y150.length:Int) then (some ((y150.set (bt153.1:Int).toNat (⟨1,rd y185 bt188.1,(⟨#[]⟩:ByteArray)⟩:S43)),bt188.2)) else (none)) else (none)) else (none)) else (none))))))))))))) else (none)))=some (r1,r2):=h
 clear h
 obtain ⟨y147,hy147⟩:∃ y_:List (S43),y_=(([]:List (S43))):=⟨_,rfl⟩
 replace H:(if y147.length+l1.length<4398046511104 then ((some (y147++l1:List (S43))).bind fun y150=>((spec_l20Rd_pick.f k s0_0 s0_1 (y150.length:Int)).bind fun bt153=>((spec_l20Rd_pick.f k s0_0 bt153.2 7).bind fun bt155=>(if bt155.1=0 then (if 0≤bt153.1 then (if bt153.1≤(y150.length:Int) then (some ((y150.take (bt153.1:Int).toNat),bt155.2)) else (none)) else (none)) else (if bt155.1=1 then (if 0≤bt153.1 then (if bt153.1<(y150.length:Int) then (if y150.length<4398046511104 then (some ((y150++[(⟨(rd_T43 y150 bt153.1).f0,(rd_T43 y150 bt153.1).f1,(rd_T43 y150 bt153.1).f2⟩:S43)]),bt155.2)) else (none)) else (none)) else (none)) else (if bt155.1=2 then (if 0≤bt153.1 then (if bt153.1<(y150.length:Int) then ((some (([1,(-1),99999,(-99999)]:List Int):List Int)).bind fun y165=>((spec_l20Rd_pick.f k s0_0 bt155.2 4).bind fun bt168=>(if 0≤bt168.1 then (if bt168.1<(y165.length:Int) then (some ((y150.set (bt153.1:Int).toNat (⟨(rd_T43 y150 bt153.1).f0,wrap64 (((rd_T43 y150 bt153.1).f1)+(rd y165 bt168.1)),(rd_T43 y150 bt153.1).f2⟩:S43)),bt168.2)) else (none)) else (none)))) else (none)) else (none)) else (if bt155.1=3 then ((some (([(⟨#[]⟩:ByteArray),(⟨#[116,111,111,108,111,110,103,110,97,109,101]⟩:ByteArray),(⟨#[65]⟩:ByteArray),(⟨#[97]⟩:ByteArray)]:List ByteArray):List ByteArray)).bind fun y172=>((spec_l20Rd_pick.f k s0_0 bt155.2 4).bind fun bt175=>(if 0≤bt175.1 then (if bt175.1<(y172.length:Int) then (if 0≤bt153.1 then (if bt153.1<(y150.length:Int) then (some ((y150.set (bt153.1:Int).toNat (⟨(rd_T43 y150 bt153.1).f0,(rd_T43 y150 bt153.1).f1,rdOf ByteArray.empty y172 bt175.1⟩:S43)),bt175.2)) else (none)) else (none)) else (none)) else (none)))) else (if bt155.1=4 then ((spec_l20Rd_pick.f k s0_0 bt155.2 5).bind fun bt179=>(if 0≤bt153.1 then (if bt153.1<(y150.length:Int) then (some ((y150.set (bt153.1:Int).toNat (⟨bt179.1,(rd_T43 y150 bt153.1).f1,(rd_T43 y150 bt153.1).f2⟩:S43)),bt179.2)) else (none)) else (none))) else (if bt155.1=5 then (spec_l20Spoil.l0 k y150 s0_0 bt155.2) else ((some (([99999,100000,(-1)]:List Int):List Int)).bind fun y185=>((spec_l20Rd_pick.f k s0_0 bt155.2 3).bind fun bt188=>(if 0≤bt188.1 then (if bt188.1<(y185.length:Int) then (if 0≤bt153.1 then (if bt153.1<(y150.length:Int) then (some ((y150.set (bt153.1:Int).toNat (⟨1,rd y185 bt188.1,(⟨#[]⟩:ByteArray)⟩:S43)),bt188.2)) else (none)) else (none)) else (none)) else (none))))))))))))) else (none))=some (r1,r2):=by first|(rw [hy147];exact H)|exact H
 have Ny147:=Aside0.mk hy147
 clear hy147
 by_cases c3:y147.length+l1.length<4398046511104
 ·rw [if_pos c3] at H
  have LMc3:=Aside0.mk c3
  clear c3
  obtain ⟨y150,hy150⟩:∃ y_:List (S43),y_=(y147++l1):=⟨_,rfl⟩
  replace H:((spec_l20Rd_pick.f k s0_0 s0_1 (y150.length:Int)).bind fun bt153=>((spec_l20Rd_pick.f k s0_0 bt153.2 7).bind fun bt155=>(if bt155.1=0 then (if 0≤bt153.1 then (if bt153.1≤(y150.length:Int) then (some ((y150.take (bt153.1:Int).toNat),bt155.2)) else (none)) else (none)) else (if bt155.1=1 then (if 0≤bt153.1 then (if bt153.1<(y150.length:Int) then (if y150.length<4398046511104 then (some ((y150++[(⟨(rd_T43 y150 bt153.1).f0,(rd_T43 y150 bt153.1).f1,(rd_T43 y150 bt153.1).f2⟩:S43)]),bt155.2)) else (none)) else (none)) else (none)) else (if bt155.1=2 then (if 0≤bt153.1 then (if bt153.1<(y150.length:Int) then ((some (([1,(-1),99999,(-99999)]:List Int):List Int)).bind fun y165=>((spec_l20Rd_pick.f k s0_0 bt155.2 4).bind fun bt168=>(if 0≤bt168.1 then (if bt168.1<(y165.length:Int) then (some ((y150.set (bt153.1:Int).toNat (⟨(rd_T43 y150 bt153.1).f0,wrap64 (((rd_T43 y150 bt153.1).f1)+(rd y165 bt168.1)),(rd_T43 y150 bt153.1).f2⟩:S43)),bt168.2)) else (none)) else (none)))) else (none)) else (none)) else (if bt155.1=3 then ((some (([(⟨#[]⟩:ByteArray),(⟨#[116,111,111,108,111,110,103,110,97,109,101]⟩:ByteArray),(⟨#[65]⟩:ByteArray),(⟨#[97]⟩:ByteArray)]:List ByteArray):List ByteArray)).bind fun y172=>((spec_l20Rd_pick.f k s0_0 bt155.2 4).bind fun bt175=>(if 0≤bt175.1 then (if bt175.1<(y172.length:Int) then (if 0≤bt153.1 then (if bt153.1<(y150.length:Int) then (some ((y150.set (bt153.1:Int).toNat (⟨(rd_T43 y150 bt153.1).f0,(rd_T43 y150 bt153.1).f1,rdOf ByteArray.empty y172 bt175.1⟩:S43)),bt175.2)) else (none)) else (none)) else (none)) else (none)))) else (if bt155.1=4 then ((spec_l20Rd_pick.f k s0_0 bt155.2 5).bind fun bt179=>(if 0≤bt153.1 then (if bt153.1<(y150.length:Int) then (some ((y150.set (bt153.1:Int).toNat (⟨bt179.1,(rd_T43 y150 bt153.1).f1,(rd_T43 y150 bt153.1).f2⟩:S43)),bt179.2)) else (none)) else (none))) else (if bt155.1=5 then (spec_l20Spoil.l0 k y150 s0_0 bt155.2) else ((some (([99999,100000,(-1)]:List Int):List Int)).bind fun y185=>((spec_l20Rd_pick.f k s0_0 bt155.2 3).bind fun bt188=>(if 0≤bt188.1 then (if bt188.1<(y185.length:Int) then (if 0≤bt153.1 then (if bt153.1<(y150.length:Int) then (some ((y150.set (bt153.1:Int).toNat (⟨1,rd y185 bt188.1,(⟨#[]⟩:ByteArray)⟩:S43)),bt188.2)) else (none)) else (none)) else (none)) else (none))))))))))))=some (r1,r2):=by first|(rw [hy150];exact H)|exact H
  have Ny150:=Aside0.mk hy150
  clear hy150
  replace H:=Option.bind_eq_some_iff.mp H
  obtain ⟨⟨t153,t154⟩,A40,H⟩:=H
  try dsimp only at H
  have A4:=Aside0.mk A40
  clear A40
  replace H:=Option.bind_eq_some_iff.mp H
  obtain ⟨⟨t155,t156⟩,A50,H⟩:=H
  try dsimp only at H
  have A5:=Aside0.mk A50
  clear A50
  by_cases c6:t155=0
  ·rw [if_pos c6] at H
   have c6b0:(t155 == 0)=true:=beq_iff_eq.mpr c6
   have c6b1:(t155 != 0)=false:=bne_eq_false_iff_eq.mpr c6
   clear c6
   by_cases c7:0≤t153
   ·rw [if_pos c7] at H
    have c7b0:=eq_true c7
    have c7b1:decide (0≤t153)=true:=decide_eq_true c7
    clear c7
    by_cases c8:t153≤(y150.length:Int)
    ·rw [if_pos c8] at H
     have c8b0:=eq_true c8
     have c8b1:decide (t153≤(y150.length:Int))=true:=decide_eq_true c8
     clear c8
     obtain ⟨y157,hy157⟩:∃ y_:List (S43),y_=(y150.take (t153:Int).toNat):=⟨_,rfl⟩
     replace H:(some (y157,t156))=some (r1,r2):=by first|(rw [hy157];exact H)|exact H
     have Ny157:=Aside0.mk hy157
     clear hy157
     simp only [Option.some.injEq,Prod.mk.injEq] at H
     obtain ⟨rfl,rfl⟩:=H
     go_enter Tryz.func32,Tryz.ntmps32
     go_wp2_with (first|((with_reducible refine gate_dst (N:=7) rfl ?_);refine Kd.R_lit k43 _ 43 ?hg (N:=7) ?hd (xs:=([]:List (S43))) (inner:=[]) (ok:=fun _=>True) (okp:=fun _=>True) ?hr ?hp (fun _ hk=>hk) trivial (Below.refl _ _) (Nat.le_refl _) (by simp) ?_;(case hd=>rfl);(case hg=>rfl);(case hr=>first|(go_simp;done)|(go_simp;rfl));(case hp=>exact (Reps.none _ _));intro v148 w9 ho10 hb hg_ hnew_;clear hg_ hnew_;(first|rw [← Ny147.out] at ho10|(simp only [Int.reduceToNat] at ho10;rw [← Ny147.out] at ho10));have n0_:=Aside0.mk (Kd.R_lower ho10 (keep_size (w:=w) (g:=g) (row:=none) qz2));have n1_:=Aside0.mk (IsS61.below qz1 hb);have n2_:=Aside0.mk (KeepBut.trans qz2 (KeepBut.of_below hb g none) (.inl rfl));have n3_:=Aside0.mk (below_step qz3 hb);clear HI0 HK HB;have HO149:=n0_;have HI0:=n1_;have HK:=n2_;have HB:=n3_;clear n0_ n1_ n2_ n3_ hb ho10)|((with_reducible refine gate_builtin (b:=.append) (xs:=#[.tmp 7,.tmp 8]) rfl ?_);at_builtin;refine Kd.R_append_rows k43 w.heap.size rfl (.tmp 7) (.tmp 8) 23 43 (.agg #[(.int .i64 0),(.int .i64 0),(.string ⟨#[]⟩)]) 32 rfl Tryz.underlying23 info43 rfl (by decide) (by omega) v148 y147 l1 _ _ _ (fun _=>True) (fun _=>False) rfl rfl ?aO ?aR (fun _ _ h=>h) (fun _ h=>h.elim) ?aF (Below.refl _ _) ?aS ?aL ?_;(case aR=>exact Kd.C_foot_now HR1.out qz2);(case aF=>exact (fun _ _=>trivial));(case aO=>exact qz46);(case aS=>exact (keep_size (w:=w) (g:=g) (row:=none) qz2));(case aL=>have:=LMc3.out;omega);intro v151 w11 ho hb hg hat;rw [← Ny150.out] at ho;have n0_:=Aside0.mk (IsS61.grown qz1 hg (IsS61.own_ne HI0.out HO149.out (by decide)));have n1_:=Aside0.mk (below_weaken qz3 HL.out hb);have n2_:=Aside0.mk (KeepBut.trans qz2 (KeepBut.of_grown hg g) (Kd.R_base2 HO149.out));have n3_:=Aside0.mk (ho);clear HI0 HB HK HO149;have HI0:=n0_;have HB:=n1_;have HK:=n2_;have HO152:=n3_;clear n0_ n1_ n2_ n3_ ho hb hg hat;obtain ⟨Ao12,co12,eo12⟩:=Kd.R_slice HO152.out;subst eo12)|((with_reducible refine gate_callee (f:=16) rfl ?_);refine goesL_ (some 13) rfl rfl Tryz.func16 (by kernel_rfl) rfl #[.pointer (some ⟨g,0,none⟩),.int .i64 (y150.length:Int)] rfl qz4 ?_;(with_reducible refine (spec_l20Rd_pick.calls k g s0_0 s0_1 (y150.length:Int) t153 t154 w0 _ ?side1 ?side2 A4.out).mono ?_);(case side1=>exact qz1);(case side2=>exact qz3);rintro e w13 ⟨rfl,hi,hb,hk⟩;refine ⟨_,rfl,?_⟩;have n0_:=Aside0.mk (Kd.R_mono (Kd.R_keep (IsS61.apart (show IsS61 w0 _ g s0_0 s0_1 from qz1) qz12 (by decide)) hk (fun _ h=>h.2)) (fun _ h=>h.1));have n1_:=Aside0.mk (KeepBut.trans qz2 hk (.inl rfl));have n2_:=Aside0.mk (hb);have n3_:=Aside0.mk (hi);clear HO152 HK HB HI0;have HO152:=n0_;have HK:=n1_;have HB:=n2_;have HI0:=n3_;clear n0_ n1_ n2_ n3_;(try clear hb);(try clear hb2);(try clear hk);(try clear hi))|((with_reducible refine gate_callee (f:=16) rfl ?_);refine goesL_ (some 15) rfl rfl Tryz.func16 (by kernel_rfl) rfl #[.pointer (some ⟨g,0,none⟩),.int .i64 7] rfl qz4 ?_;(with_reducible refine (spec_l20Rd_pick.calls k g s0_0 t154 7 t155 t156 w0 _ ?side1 ?side2 A5.out).mono ?_);(case side1=>exact qz1);(case side2=>exact qz3);rintro e w14 ⟨rfl,hi,hb,hk⟩;refine ⟨_,rfl,?_⟩;have n0_:=Aside0.mk (Kd.R_mono (Kd.R_keep (IsS61.apart (show IsS61 w0 _ g s0_0 t154 from qz1) qz12 (by decide)) hk (fun _ h=>h.2)) (fun _ h=>h.1));have n1_:=Aside0.mk (KeepBut.trans qz2 hk (.inl rfl));have n2_:=Aside0.mk (hb);have n3_:=Aside0.mk (hi);clear HO152 HK HB HI0;have HO152:=n0_;have HK:=n1_;have HB:=n2_;have HI0:=n3_;clear n0_ n1_ n2_ n3_;(try clear hb);(try clear hb2);(try clear hk);(try clear hi);have q15:(t153:Int)≤((y150.length:Int):Int):=of_decide_eq_true qz6;obtain ⟨i015,hi015,_,hsz15,_⟩:=info_parts info43;have hcut15:=cut_to (P:=Tryz.prog) 23 43 .i64 Tryz.underlying23 hi015 Ao12 y150.length co12 t153 (of_decide_eq_true qz6) q15 (Kd.R_reads' HO152.out).2.1;have hr15:=Kd.R_take (m:=(t153:Int).toNat) HO152.out (by omega);have hy15:y157.length=(t153:Int).toNat:=(by rw [Ny157.out,List.length_take];omega);rw [← Ny157.out] at hr15;rw [← hy15] at hr15 hcut15;clear hy15 hi015 hsz15 HO152;have HO159:=Aside0.mk hr15;clear hr15;replace q15:=eq_true q15))
     go_ret
     exact ⟨_,qz8,by (with_reducible repeat (first|apply Kd.R_alloc|apply Kd.R_drewN|apply Kd.R_drew));exact HO159.out,qz1,qz3,qz2⟩
    ·rw [if_neg c8] at H
     exact absurd H (by simp)
   ·rw [if_neg c7] at H
    exact absurd H (by simp)
  ·rw [if_neg c6] at H
   have c6b0:(t155 == 0)=false:=beq_eq_false_iff_ne.mpr c6
   have c6b1:(t155 != 0)=true:=bne_iff_ne.mpr c6
   by_cases c16:t155=1
   ·rw [if_pos c16] at H
    have c16b0:(t155 == 1)=true:=beq_iff_eq.mpr c16
    have c16b1:(t155 != 1)=false:=bne_eq_false_iff_eq.mpr c16
    clear c16
    by_cases c17:0≤t153
    ·rw [if_pos c17] at H
     have c17b0:decide (0≤t153)=true:=decide_eq_true c17
     clear c17
     by_cases c18:t153<(y150.length:Int)
     ·rw [if_pos c18] at H
      have c18b0:decide (t153<(y150.length:Int))=true:=decide_eq_true c18
      clear c18
      by_cases c19:y150.length<4398046511104
      ·rw [if_pos c19] at H
       have LMc19:=Aside0.mk c19
       clear c19
       obtain ⟨y161,hy161⟩:∃ y_:List (S43),y_=(y150++[(⟨(rd_T43 y150 t153).f0,(rd_T43 y150 t153).f1,(rd_T43 y150 t153).f2⟩:S43)]):=⟨_,rfl⟩
       replace H:(some (y161,t156))=some (r1,r2):=by first|(rw [hy161];exact H)|exact H
       have Ny161:=Aside0.mk hy161
       clear hy161
       simp only [Option.some.injEq,Prod.mk.injEq] at H
       obtain ⟨rfl,rfl⟩:=H
       go_enter Tryz.func32,Tryz.ntmps32
       go_wp2_with (first|((with_reducible refine gate_dst (N:=7) rfl ?_);refine Kd.R_lit k43 _ 43 ?hg (N:=7) ?hd (xs:=([]:List (S43))) (inner:=[]) (ok:=fun _=>True) (okp:=fun _=>True) ?hr ?hp (fun _ hk=>hk) trivial (Below.refl _ _) (Nat.le_refl _) (by simp) ?_;(case hd=>rfl);(case hg=>rfl);(case hr=>first|(go_simp;done)|(go_simp;rfl));(case hp=>exact (Reps.none _ _));intro v148 w20 ho21 hb hg_ hnew_;clear hg_ hnew_;(first|rw [← Ny147.out] at ho21|(simp only [Int.reduceToNat] at ho21;rw [← Ny147.out] at ho21));have n0_:=Aside0.mk (Kd.R_lower ho21 (keep_size (w:=w) (g:=g) (row:=none) qz2));have n1_:=Aside0.mk (IsS61.below qz1 hb);have n2_:=Aside0.mk (KeepBut.trans qz2 (KeepBut.of_below hb g none) (.inl rfl));have n3_:=Aside0.mk (below_step qz3 hb);clear HI0 HK HB;have HO149:=n0_;have HI0:=n1_;have HK:=n2_;have HB:=n3_;clear n0_ n1_ n2_ n3_ hb ho21)|((with_reducible refine gate_builtin (b:=.append) (xs:=#[.tmp 7,.tmp 8]) rfl ?_);at_builtin;refine Kd.R_append_rows k43 w.heap.size rfl (.tmp 7) (.tmp 8) 23 43 (.agg #[(.int .i64 0),(.int .i64 0),(.string ⟨#[]⟩)]) 32 rfl Tryz.underlying23 info43 rfl (by decide) (by omega) v148 y147 l1 _ _ _ (fun _=>True) (fun _=>False) rfl rfl ?aO ?aR (fun _ _ h=>h) (fun _ h=>h.elim) ?aF (Below.refl _ _) ?aS ?aL ?_;(case aR=>exact Kd.C_foot_now HR1.out qz2);(case aF=>exact (fun _ _=>trivial));(case aO=>exact qz46);(case aS=>exact (keep_size (w:=w) (g:=g) (row:=none) qz2));(case aL=>have:=LMc3.out;omega);intro v151 w22 ho hb hg hat;rw [← Ny150.out] at ho;have n0_:=Aside0.mk (IsS61.grown qz1 hg (IsS61.own_ne HI0.out HO149.out (by decide)));have n1_:=Aside0.mk (below_weaken qz3 HL.out hb);have n2_:=Aside0.mk (KeepBut.trans qz2 (KeepBut.of_grown hg g) (Kd.R_base2 HO149.out));have n3_:=Aside0.mk (ho);clear HI0 HB HK HO149;have HI0:=n0_;have HB:=n1_;have HK:=n2_;have HO152:=n3_;clear n0_ n1_ n2_ n3_ ho hb hg hat;obtain ⟨Ao23,co23,eo23⟩:=Kd.R_slice HO152.out;subst eo23)|((with_reducible refine gate_callee (f:=16) rfl ?_);refine goesL_ (some 13) rfl rfl Tryz.func16 (by kernel_rfl) rfl #[.pointer (some ⟨g,0,none⟩),.int .i64 (y150.length:Int)] rfl qz4 ?_;(with_reducible refine (spec_l20Rd_pick.calls k g s0_0 s0_1 (y150.length:Int) t153 t154 w0 _ ?side1 ?side2 A4.out).mono ?_);(case side1=>exact qz1);(case side2=>exact qz3);rintro e w24 ⟨rfl,hi,hb,hk⟩;refine ⟨_,rfl,?_⟩;have n0_:=Aside0.mk (Kd.R_mono (Kd.R_keep (IsS61.apart (show IsS61 w0 _ g s0_0 s0_1 from qz1) qz12 (by decide)) hk (fun _ h=>h.2)) (fun _ h=>h.1));have n1_:=Aside0.mk (KeepBut.trans qz2 hk (.inl rfl));have n2_:=Aside0.mk (hb);have n3_:=Aside0.mk (hi);clear HO152 HK HB HI0;have HO152:=n0_;have HK:=n1_;have HB:=n2_;have HI0:=n3_;clear n0_ n1_ n2_ n3_;(try clear hb);(try clear hb2);(try clear hk);(try clear hi))|((with_reducible refine gate_callee (f:=16) rfl ?_);refine goesL_ (some 15) rfl rfl Tryz.func16 (by kernel_rfl) rfl #[.pointer (some ⟨g,0,none⟩),.int .i64 7] rfl qz4 ?_;(with_reducible refine (spec_l20Rd_pick.calls k g s0_0 t154 7 t155 t156 w0 _ ?side1 ?side2 A5.out).mono ?_);(case side1=>exact qz1);(case side2=>exact qz3);rintro e w25 ⟨rfl,hi,hb,hk⟩;refine ⟨_,rfl,?_⟩;have n0_:=Aside0.mk (Kd.R_mono (Kd.R_keep (IsS61.apart (show IsS61 w0 _ g s0_0 t154 from qz1) qz12 (by decide)) hk (fun _ h=>h.2)) (fun _ h=>h.1));have n1_:=Aside0.mk (KeepBut.trans qz2 hk (.inl rfl));have n2_:=Aside0.mk (hb);have n3_:=Aside0.mk (hi);clear HO152 HK HB HI0;have HO152:=n0_;have HK:=n1_;have HB:=n2_;have HI0:=n3_;clear n0_ n1_ n2_ n3_;(try clear hb);(try clear hb2);(try clear hk);(try clear hi);have p160:0≤(t153:Int):=of_decide_eq_true qz6;have q160:t153<(y150.length:Int):=of_decide_eq_true qz6;obtain ⟨ad160,e160,hx160_0,hx160_1,hx160_2⟩:=at_T43 (Kd.R_reads' HO152.out).2.2 t153 p160 q160;cases e160;replace p160:=eq_true p160;replace q160:=eq_true q160)|((with_reducible refine gate_builtin (b:=.append) (xs:=#[.tmp 32,.tmp 37]) rfl ?_);at_builtin;refine Kd.R_append k43 w.heap.size rfl (.tmp 32) (.tmp 37) 23 43 (.agg #[(.int .i64 0),(.int .i64 0),(.string ⟨#[]⟩)]) 32 rfl Tryz.underlying23 info43 rfl (by decide) (by omega) (.slice (some ad160) y150.length co23) y150 (⟨(rd_T43 y150 t153).f0,(rd_T43 y150 t153).f1,(rd_T43 y150 t153).f2⟩:S43) [.int .i64 ((rd_T43 y150 t153).f0),.int .i64 ((rd_T43 y150 t153).f1),.string ((rd_T43 y150 t153).f2)] (fun _=>True) (fun _=>False) rfl rfl ?aP (fun _ hk=>hk.elim) ?aF ?aO (Below.refl _ _) ?aS ?aL ?_;(case aP=>exact k43_mkM _ _ _ (⟨(rd_T43 y150 t153).f0,(rd_T43 y150 t153).f1,(rd_T43 y150 t153).f2⟩:S43));(case aF=>exact (fun _ _=>trivial));(case aO=>exact qz12);(case aS=>exact (keep_size (w:=w) (g:=g) (row:=none) qz2));(case aL=>have:=LMc19.out;omega);intro v162 w26 ho hb hg hat;rw [← Ny161.out] at ho;have n0_:=Aside0.mk (IsS61.grown qz1 hg (IsS61.own_ne HI0.out HO152.out (by decide)));have n1_:=Aside0.mk (below_weaken qz3 HL.out hb);have n2_:=Aside0.mk (KeepBut.trans qz2 (KeepBut.of_grown hg g) (Kd.R_base2 HO152.out));have n3_:=Aside0.mk (ho);clear HI0 HB HK HO152;have HI0:=n0_;have HB:=n1_;have HK:=n2_;have HO163:=n3_;clear n0_ n1_ n2_ n3_ ho hb hg hat))
       go_ret
       exact ⟨_,qz8,by (with_reducible repeat (first|apply Kd.R_alloc|apply Kd.R_drewN|apply Kd.R_drew));exact HO163.out,qz1,qz3,qz2⟩
      ·rw [if_neg c19] at H
       exact absurd H (by simp)
     ·rw [if_neg c18] at H
      exact absurd H (by simp)
    ·rw [if_neg c17] at H
     exact absurd H (by simp)
   ·rw [if_neg c16] at H
    have c16b0:(t155 == 1)=false:=beq_eq_false_iff_ne.mpr c16
    have c16b1:(t155 != 1)=true:=bne_iff_ne.mpr c16
    by_cases c27:t155=2
    ·rw [if_pos c27] at H
     have c27b0:(t155 == 2)=true:=beq_iff_eq.mpr c27
     have c27b1:(t155 != 2)=false:=bne_eq_false_iff_eq.mpr c27
     clear c27
     by_cases c28:0≤t153
     ·rw [if_pos c28] at H
      have c28b0:decide (0≤t153)=true:=decide_eq_true c28
      clear c28
      by_cases c29:t153<(y150.length:Int)
      ·rw [if_pos c29] at H
       have c29b0:decide (t153<(y150.length:Int))=true:=decide_eq_true c29
       clear c29
       obtain ⟨y165,hy165⟩:∃ y_:List Int,y_=(([1,(-1),99999,(-99999)]:List Int)):=⟨_,rfl⟩
       replace H:((spec_l20Rd_pick.f k s0_0 t156 4).bind fun bt168=>(if 0≤bt168.1 then (if bt168.1<(y165.length:Int) then (some ((y150.set (t153:Int).toNat (⟨(rd_T43 y150 t153).f0,wrap64 (((rd_T43 y150 t153).f1)+(rd y165 bt168.1)),(rd_T43 y150 t153).f2⟩:S43)),bt168.2)) else (none)) else (none)))=some (r1,r2):=by first|(rw [hy165];exact H)|exact H
       have Ny165:=Aside0.mk hy165
       clear hy165
       replace H:=Option.bind_eq_some_iff.mp H
       obtain ⟨⟨t168,t169⟩,A300,H⟩:=H
       try dsimp only at H
       have A30:=Aside0.mk A300
       clear A300
       by_cases c31:0≤t168
       ·rw [if_pos c31] at H
        have c31b0:decide (0≤t168)=true:=decide_eq_true c31
        clear c31
        by_cases c32:t168<(y165.length:Int)
        ·rw [if_pos c32] at H
         have c32b0:decide (t168<(y165.length:Int))=true:=decide_eq_true c32
         clear c32
         obtain ⟨y171,hy171⟩:∃ y_:List (S43),y_=(y150.set (t153:Int).toNat (⟨(rd_T43 y150 t153).f0,wrap64 (((rd_T43 y150 t153).f1)+(rd y165 t168)),(rd_T43 y150 t153).f2⟩:S43)):=⟨_,rfl⟩
         replace H:(some (y171,t169))=some (r1,r2):=by first|(rw [hy171];exact H)|exact H
         have Ny171:=Aside0.mk hy171
         clear hy171
         simp only [Option.some.injEq,Prod.mk.injEq] at H
         obtain ⟨rfl,rfl⟩:=H
         go_enter Tryz.func32,Tryz.ntmps32
         try go_wp2_with (first|((with_reducible refine gate_dst (N:=7) rfl ?_);refine Kd.R_lit k43 _ 43 ?hg (N:=7) ?hd (xs:=([]:List (S43))) (inner:=[]) (ok:=fun _=>True) (okp:=fun _=>True) ?hr ?hp (fun _ hk=>hk) trivial (Below.refl _ _) (Nat.le_refl _) (by simp) ?_;(case hd=>rfl);(case hg=>rfl);(case hr=>first|(go_simp;done)|(go_simp;rfl));(case hp=>exact (Reps.none _ _));intro v148 w34 ho35 hb hg_ hnew_;clear hg_ hnew_;(first|rw [← Ny147.out] at ho35|(simp only [Int.reduceToNat] at ho35;rw [← Ny147.out] at ho35));have n0_:=Aside0.mk (Kd.R_lower ho35 (keep_size (w:=w) (g:=g) (row:=none) qz2));have n1_:=Aside0.mk (IsS61.below qz1 hb);have n2_:=Aside0.mk (KeepBut.trans qz2 (KeepBut.of_below hb g none) (.inl rfl));have n3_:=Aside0.mk (below_step qz3 hb);clear HI0 HK HB;have HO149:=n0_;have HI0:=n1_;have HK:=n2_;have HB:=n3_;clear n0_ n1_ n2_ n3_ hb ho35)|((with_reducible refine gate_builtin (b:=.append) (xs:=#[.tmp 7,.tmp 8]) rfl ?_);at_builtin;refine Kd.R_append_rows k43 w.heap.size rfl (.tmp 7) (.tmp 8) 23 43 (.agg #[(.int .i64 0),(.int .i64 0),(.string ⟨#[]⟩)]) 32 rfl Tryz.underlying23 info43 rfl (by decide) (by omega) v148 y147 l1 _ _ _ (fun _=>True) (fun _=>False) rfl rfl ?aO ?aR (fun _ _ h=>h) (fun _ h=>h.elim) ?aF (Below.refl _ _) ?aS ?aL ?_;(case aR=>exact Kd.C_foot_now HR1.out qz2);(case aF=>exact (fun _ _=>trivial));(case aO=>exact qz46);(case aS=>exact (keep_size (w:=w) (g:=g) (row:=none) qz2));(case aL=>have:=LMc3.out;omega);intro v151 w36 ho hb hg hat;rw [← Ny150.out] at ho;have n0_:=Aside0.mk (IsS61.grown qz1 hg (IsS61.own_ne HI0.out HO149.out (by decide)));have n1_:=Aside0.mk (below_weaken qz3 HL.out hb);have n2_:=Aside0.mk (KeepBut.trans qz2 (KeepBut.of_grown hg g) (Kd.R_base2 HO149.out));have n3_:=Aside0.mk (ho);clear HI0 HB HK HO149;have HI0:=n0_;have HB:=n1_;have HK:=n2_;have HO152:=n3_;clear n0_ n1_ n2_ n3_ ho hb hg hat;obtain ⟨Ao37,co37,eo37⟩:=Kd.R_slice HO152.out;subst eo37)|((with_reducible refine gate_callee (f:=16) rfl ?_);refine goesL_ (some 13) rfl rfl Tryz.func16 (by kernel_rfl) rfl #[.pointer (some ⟨g,0,none⟩),.int .i64 (y150.length:Int)] rfl qz4 ?_;(with_reducible refine (spec_l20Rd_pick.calls k g s0_0 s0_1 (y150.length:Int) t153 t154 w0 _ ?side1 ?side2 A4.out).mono ?_);(case side1=>exact qz1);(case side2=>exact qz3);rintro e w38 ⟨rfl,hi,hb,hk⟩;refine ⟨_,rfl,?_⟩;have n0_:=Aside0.mk (Kd.R_mono (Kd.R_keep (IsS61.apart (show IsS61 w0 _ g s0_0 s0_1 from qz1) qz12 (by decide)) hk (fun _ h=>h.2)) (fun _ h=>h.1));have n1_:=Aside0.mk (KeepBut.trans qz2 hk (.inl rfl));have n2_:=Aside0.mk (hb);have n3_:=Aside0.mk (hi);clear HO152 HK HB HI0;have HO152:=n0_;have HK:=n1_;have HB:=n2_;have HI0:=n3_;clear n0_ n1_ n2_ n3_;(try clear hb);(try clear hb2);(try clear hk);(try clear hi))|((with_reducible refine gate_callee (f:=16) rfl ?_);refine goesL_ (some 15) rfl rfl Tryz.func16 (by kernel_rfl) rfl #[.pointer (some ⟨g,0,none⟩),.int .i64 7] rfl qz4 ?_;(with_reducible refine (spec_l20Rd_pick.calls k g s0_0 t154 7 t155 t156 w0 _ ?side1 ?side2 A5.out).mono ?_);(case side1=>exact qz1);(case side2=>exact qz3);rintro e w39 ⟨rfl,hi,hb,hk⟩;refine ⟨_,rfl,?_⟩;have n0_:=Aside0.mk (Kd.R_mono (Kd.R_keep (IsS61.apart (show IsS61 w0 _ g s0_0 t154 from qz1) qz12 (by decide)) hk (fun _ h=>h.2)) (fun _ h=>h.1));have n1_:=Aside0.mk (KeepBut.trans qz2 hk (.inl rfl));have n2_:=Aside0.mk (hb);have n3_:=Aside0.mk (hi);clear HO152 HK HB HI0;have HO152:=n0_;have HK:=n1_;have HB:=n2_;have HI0:=n3_;clear n0_ n1_ n2_ n3_;(try clear hb);(try clear hb2);(try clear hk);(try clear hi)))
         have pi170:(0≤(t168:Int))=True:=eq_true (of_decide_eq_true qz6)
         have qi170:(t168<(y165.length:Int))=True:=eq_true (of_decide_eq_true qz6)
         have n0_:=Aside0.mk (Kd.R_drew HO152.out)
         have n1_:=Aside0.mk (IsS61.drew HI0.out)
         have n2_:=Aside0.mk (keep_drew HK.out)
         have n3_:=Aside0.mk (below_drew1 HB.out)
         clear HO152 HI0 HK HB
         have HO152:=n0_
         have HI0:=n1_
         have HK:=n2_
         have HB:=n3_
         clear n0_ n1_ n2_ n3_
         have p164:0≤(t153:Int):=of_decide_eq_true qz6
         have q164:t153<(y150.length:Int):=of_decide_eq_true qz6
         obtain ⟨ad164,e164,hx164_0,hx164_1,hx164_2⟩:=at_T43 (Kd.R_reads' HO152.out).2.2 t153 p164 q164
         cases e164
         replace p164:=eq_true p164
         replace q164:=eq_true q164
         refine start_ (n:=16) (S:=fun w'=>w'.cell? (ad164.add ((t153).toNat * 3))=some (.int .i64 ((rd_T43 y150 t153).f0))∧w'.cell? ⟨(ad164.add ((t153).toNat * 3)).block,(ad164.add ((t153).toNat * 3)).off+1,none⟩=some (.int .i64 ((rd_T43 y150 t153).f1))∧w'.cell? ⟨(ad164.add ((t153).toNat * 3)).block,(ad164.add ((t153).toNat * 3)).off+2,none⟩=some (.string ((rd_T43 y150 t153).f2))) (ds:=[15]) #[false,false,false,false,false,false,false,false,false,false,false,false,false,false,false,false] (by kernel_rfl) rfl rfl ⟨hx164_0,hx164_1,hx164_2⟩ (fun hHeld=>?_);refine with_tabW spec_l20Spoil.tab10 spec_l20Spoil.bits10 (fun HT_ HW_=>?_)
         generalize w39.drew=w40 at HO152 HI0 HK HB hx164_0 hx164_1 hx164_2 hHeld ⊢
         refine pure_ (i:=0) (N:=some 41) (v:=?_) (a':=?_) #[true,false,false,false,false,false,false,false,false,false,false,false,false,false,false,false] rfl rfl (any_of HT_.out (by kernel_rfl)) (fun _ _ _ h=>h) (Or.inl ⟨by rfl,?_⟩) ?_ ?_
         rotate_left
         ·intro w'
          go_simp
          with_reducible rfl
         rotate_left
         ·simp only [Act.put,List.setIfInBounds_toArray,List.set_cons_zero,List.set_cons_succ,i64_w,i32_w]
          rfl
         refine pure_ (i:=1) (N:=some 42) (v:=?_) (a':=?_) #[true,true,false,false,false,false,false,false,false,false,false,false,false,false,false,false] rfl rfl (any_of HT_.out (by kernel_rfl)) (fun _ _ _ h=>h) (Or.inl ⟨by rfl,?_⟩) ?_ ?_
         rotate_left
         ·intro w'
          go_simp
          with_reducible rfl
         rotate_left
         ·simp only [Act.put,List.setIfInBounds_toArray,List.set_cons_zero,List.set_cons_succ,i64_w,i32_w]
          rfl
         refine pure_ (i:=2) (N:=some 43) (v:=?_) (a':=?_) #[true,true,true,false,false,false,false,false,false,false,false,false,false,false,false,false] rfl rfl (any_of HT_.out (by kernel_rfl)) (fun _ _ _ h=>h) (Or.inl ⟨by rfl,?_⟩) ?_ ?_
         rotate_left
         ·intro w'
          go_simp
          with_reducible rfl
         rotate_left
         ·simp only [Act.put,List.setIfInBounds_toArray,List.set_cons_zero,List.set_cons_succ,i64_w,i32_w]
          rfl
         refine pure_ (i:=3) (N:=some 44) (v:=?_) (a':=?_) #[true,true,true,true,false,false,false,false,false,false,false,false,false,false,false,false] rfl rfl (any_of HT_.out (by kernel_rfl)) (fun _ _ _ h=>h) (Or.inl ⟨by rfl,?_⟩) ?_ ?_
         rotate_left
         ·intro w'
          go_simp
          with_reducible rfl
         rotate_left
         ·simp only [Act.put,List.setIfInBounds_toArray,List.set_cons_zero,List.set_cons_succ,i64_w,i32_w]
          rfl
         refine pure_ (i:=4) (N:=some 45) (v:=?_) (a':=?_) #[true,true,true,true,true,false,false,false,false,false,false,false,false,false,false,false] rfl rfl (any_of HT_.out (by kernel_rfl)) (fun _ _ _ h=>h) (Or.inl ⟨by rfl,?_⟩) ?_ ?_
         rotate_left
         ·intro w'
          go_simp
          with_reducible rfl
         rotate_left
         ·simp only [Act.put,List.setIfInBounds_toArray,List.set_cons_zero,List.set_cons_succ,i64_w,i32_w]
          rfl
         refine pure_ (i:=5) (N:=some 46) (v:=?_) (a':=?_) #[true,true,true,true,true,true,false,false,false,false,false,false,false,false,false,false] rfl rfl (any_of HT_.out (by kernel_rfl)) (fun _ _ _ h=>h) (Or.inl ⟨by rfl,?_⟩) ?_ ?_
         rotate_left
         ·intro w'
          go_simp
          with_reducible rfl
         rotate_left
         ·simp only [Act.put,List.setIfInBounds_toArray,List.set_cons_zero,List.set_cons_succ,i64_w,i32_w]
          rfl
         refine pure_ (i:=8) (N:=some 49) (v:=?_) (a':=?_) #[true,true,true,true,true,true,false,false,true,false,false,false,false,false,false,false] rfl rfl (any_of HT_.out (by kernel_rfl)) (fun _ _ _ h=>h) (Or.inl ⟨by rfl,?_⟩) ?_ ?_
         rotate_left
         ·intro w'
          go_simp
          with_reducible rfl
         rotate_left
         ·simp only [Act.put,List.setIfInBounds_toArray,List.set_cons_zero,List.set_cons_succ,i64_w,i32_w]
          rfl
         refine take_ (i:=6) (N:=some 47) (v:=?_) (a':=?_) #[true,true,true,true,true,true,true,false,true,false,false,false,false,false,false,false] rfl rfl (take_ofW HT_.out HW_.out (by kernel_rfl)) (fun _ _ _ h=>h) (Or.inl ⟨by rfl,?_⟩) hHeld ?_ ?_
         rotate_left
         ·rintro w' ⟨s0,s1,s2⟩
          go_simp
          with_reducible rfl
         rotate_left
         ·simp only [Act.put,List.setIfInBounds_toArray,List.set_cons_zero,List.set_cons_succ,i64_w,i32_w]
          rfl
         refine join_ (σ:=Value × Addr) 6 #[true,true,true,true,true,true,true,true,true,true,false,false,false,false,false,false] (fun s_=>[(48,s_.1),(50,.int .i64 t168)]) (fun s_ w'=>(w'.cell? (ad164.add ((t153).toNat * 3))=some (.int .i64 ((rd_T43 y150 t153).f0))∧w'.cell? ⟨(ad164.add ((t153).toNat * 3)).block,(ad164.add ((t153).toNat * 3)).off+1,none⟩=some (.int .i64 ((rd_T43 y150 t153).f1))∧w'.cell? ⟨(ad164.add ((t153).toNat * 3)).block,(ad164.add ((t153).toNat * 3)).off+2,none⟩=some (.string ((rd_T43 y150 t153).f2)))∧(Kd.R k43 43 w' w.heap.size (fun _=>True) (.slice (some ad164) y150.length co37) y150)∧(Kd.R (Kd.int .i64) 3 w' w.heap.size (fun _=>True) s_.1 y165)∧(∃ c_,(s_.1:Value) = .slice (some s_.2) y165.length c_)∧(IsS61 w0 w' g s0_0 t169)∧(KeepBut w w' g none)∧(Below w0.heap.size w0 w')) ?_ ?_
         rotate_left
         ·intro hCont
          refine two_ (i:=7) (j:=9) (Ni:=some 48) (Nj:=some 50) #[true,true,true,true,true,true,true,true,true,false,false,false,false,false,false,false] #[true,true,true,true,true,true,true,false,true,true,false,false,false,false,false,false] rfl rfl rfl rfl (two_of HT_.out (by kernel_rfl)) (by decide) (by decide) (fun K hK=>?_) (fun K hK=>?_)
          ·skip
           refine Kd.R_lit_step (Kd.int .i64) _ 3 ?hg (N:=48) ?hd (xs:=([1,(-1),99999,(-99999)]:List Int)) (inner:=[.int .i64 1,.int .i64 (-1),.int .i64 99999,.int .i64 (-99999)]) (ok:=fun _=>True) (okp:=fun _=>True) ?hr ?hp (fun _ hk=>hk) trivial (Below.refl _ _) (Nat.le_refl _) (by simp) ?_;(case hd=>rfl);(case hg=>rfl);(case hr=>first|(go_simp;done)|(go_simp;rfl));(case hp=>exact (Reps.one (show Kd.M (Kd.int .i64) _ _ _ 1 [.int .i64 1] from rfl) (Reps.one (show Kd.M (Kd.int .i64) _ _ _ (-1) [.int .i64 (-1)] from rfl) (Reps.one (show Kd.M (Kd.int .i64) _ _ _ 99999 [.int .i64 99999] from rfl) (Reps.one (show Kd.M (Kd.int .i64) _ _ _ (-99999) [.int .i64 (-99999)] from rfl) (Reps.none _ _))))))
           intro v166 w41 ho42 hb hg_ hnew_
           have HS0_:=(hb.cell (World.block_lt_of_cell? _ _ (hHeld.1))).trans (hHeld.1)
           have HS1_:=(hb.cell (World.block_lt_of_cell? _ _ (hHeld.2.1))).trans (hHeld.2.1)
           have HS2_:=(hb.cell (World.block_lt_of_cell? _ _ (hHeld.2.2))).trans (hHeld.2.2)
           clear hg_ hnew_
           (first|rw [← Ny165.out] at ho42|(simp only [Int.reduceToNat] at ho42;rw [← Ny165.out] at ho42))
           have n0_:=Aside0.mk (Kd.R_below qz12 hb)
           have n1_:=Aside0.mk (Kd.R_lower ho42 (keep_size (w:=w) (g:=g) (row:=none) qz2))
           have n2_:=Aside0.mk (IsS61.below qz1 hb)
           have n3_:=Aside0.mk (KeepBut.trans qz2 (KeepBut.of_below hb g none) (.inl rfl))
           have n4_:=Aside0.mk (below_step qz3 hb)
           clear HO152 HI0 HK HB
           have HO152:=n0_
           have HO167:=n1_
           have HI0:=n2_
           have HK:=n3_
           have HB:=n4_
           clear n0_ n1_ n2_ n3_ n4_ hb ho42
           obtain ⟨Ao43,co43,eo43⟩:=Kd.R_slice HO167.out
           subst eo43
           obtain ⟨ado43,fo43,_⟩:=Kd.at_int (Kd.R_reads' HO167.out).2.2 0 (by decide) (by rw [Ny165.out];simp)
           cases fo43
           refine hK.out _ _ ⟨HS0_,HS1_,HS2_⟩ (fun hHeld=>?_)
           clear hK K
           refine norm_ (a':=?_) ?_ ?_
           rotate_left
           ·show Act.put _ (some 48) _=_
            simp only [Act.put,List.setIfInBounds_toArray,List.set_cons_zero,List.set_cons_succ,i64_w,i32_w]
            rfl
           refine one_ (i:=9) (N:=some 50) #[true,true,true,true,true,true,true,true,true,true,false,false,false,false,false,false] rfl rfl (one_of HT_.out (by kernel_rfl)) (by decide) (fun K hK=>?_)
           refine goes_ Tryz.func16 (by kernel_rfl) rfl #[.pointer (some ⟨g,0,none⟩),.int .i64 4] (by rfl) rfl rfl qz4 ?_
           with_reducible refine (spec_l20Rd_pick.calls k g s0_0 t156 4 t168 t169 w0 _ ?side1 ?side2 A30.out).mono ?_
           (case side1=>exact qz1)
           (case side2=>exact qz3)
           rintro e w44 ⟨rfl,hi,hb,hk⟩
           have HS0_:=keep_cell hk (hHeld.1) qz32
           have HS1_:=keep_cell hk (hHeld.2.1) qz32
           have HS2_:=keep_cell hk (hHeld.2.2) qz32
           refine ⟨_,rfl,?_⟩
           have n0_:=Aside0.mk (Kd.R_mono (Kd.R_keep (IsS61.apart (show IsS61 w0 _ g s0_0 t156 from qz1) qz12 (by decide)) hk (fun _ h=>h.2)) (fun _ h=>h.1))
           have n1_:=Aside0.mk (Kd.R_mono (Kd.R_keep (IsS61.apart (show IsS61 w0 _ g s0_0 t156 from qz1) qz69 (by decide)) hk (fun _ h=>h.2)) (fun _ h=>h.1))
           have n2_:=Aside0.mk (KeepBut.trans qz2 hk (.inl rfl))
           have n3_:=Aside0.mk (hb)
           have n4_:=Aside0.mk (hi)
           clear HO152 HO167 HK HB HI0
           have HO152:=n0_
           have HO167:=n1_
           have HK:=n2_
           have HB:=n3_
           have HI0:=n4_
           clear n0_ n1_ n2_ n3_ n4_
           (try clear hb)
           (try clear hb2)
           (try clear hk)
           (try clear hi)
           refine hK.out _ _ ⟨HS0_,HS1_,HS2_⟩ (fun hHeld=>?_)
           clear hK K
           refine norm_ (a':=?_) ?_ ?_
           rotate_left
           ·show Act.put _ (some 50) _=_
            simp only [Act.put,List.setIfInBounds_toArray,List.set_cons_zero,List.set_cons_succ,i64_w,i32_w]
            rfl
           exact norm_ (by simp only [putAll,Act.put,List.setIfInBounds_toArray,List.set_cons_zero,List.set_cons_succ]) (hCont (.slice (some ado43) y165.length co43,ado43) _ ⟨hHeld,qz12,qz69,⟨_,rfl⟩,qz1,qz2,qz3⟩)
          ·skip
           refine goes_ Tryz.func16 (by kernel_rfl) rfl #[.pointer (some ⟨g,0,none⟩),.int .i64 4] (by rfl) rfl rfl qz4 ?_
           with_reducible refine (spec_l20Rd_pick.calls k g s0_0 t156 4 t168 t169 w0 _ ?side1 ?side2 A30.out).mono ?_
           (case side1=>exact qz1)
           (case side2=>exact qz3)
           rintro e w41 ⟨rfl,hi,hb,hk⟩
           have HS0_:=keep_cell hk (hHeld.1) qz32
           have HS1_:=keep_cell hk (hHeld.2.1) qz32
           have HS2_:=keep_cell hk (hHeld.2.2) qz32
           refine ⟨_,rfl,?_⟩
           have n0_:=Aside0.mk (Kd.R_mono (Kd.R_keep (IsS61.apart (show IsS61 w0 _ g s0_0 t156 from qz1) qz12 (by decide)) hk (fun _ h=>h.2)) (fun _ h=>h.1))
           have n1_:=Aside0.mk (KeepBut.trans qz2 hk (.inl rfl))
           have n2_:=Aside0.mk (hb)
           have n3_:=Aside0.mk (hi)
           clear HO152 HK HB HI0
           have HO152:=n0_
           have HK:=n1_
           have HB:=n2_
           have HI0:=n3_
           clear n0_ n1_ n2_ n3_
           (try clear hb)
           (try clear hb2)
           (try clear hk)
           (try clear hi)
           refine hK.out _ _ ⟨HS0_,HS1_,HS2_⟩ (fun hHeld=>?_)
           clear hK K
           refine norm_ (a':=?_) ?_ ?_
           rotate_left
           ·show Act.put _ (some 50) _=_
            simp only [Act.put,List.setIfInBounds_toArray,List.set_cons_zero,List.set_cons_succ,i64_w,i32_w]
            rfl
           refine one_ (i:=7) (N:=some 48) #[true,true,true,true,true,true,true,true,true,true,false,false,false,false,false,false] rfl rfl (one_of HT_.out (by kernel_rfl)) (by decide) (fun K hK=>?_)
           refine Kd.R_lit_step (Kd.int .i64) _ 3 ?hg (N:=48) ?hd (xs:=([1,(-1),99999,(-99999)]:List Int)) (inner:=[.int .i64 1,.int .i64 (-1),.int .i64 99999,.int .i64 (-99999)]) (ok:=fun _=>True) (okp:=fun _=>True) ?hr ?hp (fun _ hk=>hk) trivial (Below.refl _ _) (Nat.le_refl _) (by simp) ?_;(case hd=>rfl);(case hg=>rfl);(case hr=>first|(go_simp;done)|(go_simp;rfl));(case hp=>exact (Reps.one (show Kd.M (Kd.int .i64) _ _ _ 1 [.int .i64 1] from rfl) (Reps.one (show Kd.M (Kd.int .i64) _ _ _ (-1) [.int .i64 (-1)] from rfl) (Reps.one (show Kd.M (Kd.int .i64) _ _ _ 99999 [.int .i64 99999] from rfl) (Reps.one (show Kd.M (Kd.int .i64) _ _ _ (-99999) [.int .i64 (-99999)] from rfl) (Reps.none _ _))))))
           intro v166 w42 ho43 hb hg_ hnew_
           have HS0_:=(hb.cell (World.block_lt_of_cell? _ _ (hHeld.1))).trans (hHeld.1)
           have HS1_:=(hb.cell (World.block_lt_of_cell? _ _ (hHeld.2.1))).trans (hHeld.2.1)
           have HS2_:=(hb.cell (World.block_lt_of_cell? _ _ (hHeld.2.2))).trans (hHeld.2.2)
           clear hg_ hnew_
           (first|rw [← Ny165.out] at ho43|(simp only [Int.reduceToNat] at ho43;rw [← Ny165.out] at ho43))
           have n0_:=Aside0.mk (Kd.R_below qz12 hb)
           have n1_:=Aside0.mk (Kd.R_lower ho43 (keep_size (w:=w) (g:=g) (row:=none) qz2))
           have n2_:=Aside0.mk (IsS61.below qz1 hb)
           have n3_:=Aside0.mk (KeepBut.trans qz2 (KeepBut.of_below hb g none) (.inl rfl))
           have n4_:=Aside0.mk (below_step qz3 hb)
           clear HO152 HI0 HK HB
           have HO152:=n0_
           have HO167:=n1_
           have HI0:=n2_
           have HK:=n3_
           have HB:=n4_
           clear n0_ n1_ n2_ n3_ n4_ hb ho43
           obtain ⟨Ao44,co44,eo44⟩:=Kd.R_slice HO167.out
           subst eo44
           obtain ⟨ado44,fo44,_⟩:=Kd.at_int (Kd.R_reads' HO167.out).2.2 0 (by decide) (by rw [Ny165.out];simp)
           cases fo44
           refine hK.out _ _ ⟨HS0_,HS1_,HS2_⟩ (fun hHeld=>?_)
           clear hK K
           refine norm_ (a':=?_) ?_ ?_
           rotate_left
           ·show Act.put _ (some 48) _=_
            simp only [Act.put,List.setIfInBounds_toArray,List.set_cons_zero,List.set_cons_succ,i64_w,i32_w]
            rfl
           exact norm_ (by simp only [putAll,Act.put,List.setIfInBounds_toArray,List.set_cons_zero,List.set_cons_succ]) (hCont (.slice (some ado44) y165.length co44,ado44) _ ⟨hHeld,qz12,qz69,⟨_,rfl⟩,qz1,qz2,qz3⟩)
         rintro ⟨v166,adz_v166⟩ w45 ⟨hS_,h0_,h1_,h2_,h3_,h4_,h5_⟩
         have n0_:Aside0 (Kd.R k43 43 w45 w.heap.size (fun _=>True) (.slice (some ad164) y150.length co37) y150):=⟨h0_⟩
         have n1_:Aside0 (Kd.R (Kd.int .i64) 3 w45 w.heap.size (fun _=>True) v166 y165):=⟨h1_⟩
         have n2_:Aside0 (∃ c_,(v166:Value) = .slice (some adz_v166) y165.length c_):=⟨h2_⟩
         have n3_:Aside0 (IsS61 w0 w45 g s0_0 t169):=⟨h3_⟩
         have n4_:Aside0 (KeepBut w w45 g none):=⟨h4_⟩
         have n5_:Aside0 (Below w0.heap.size w0 w45):=⟨h5_⟩
         clear HO152 HI0 HK HB h0_ h1_ h2_ h3_ h4_ h5_
         have HO152:=n0_
         have HO167:=n1_
         have HA_HO167:=n2_
         have HI0:=n3_
         have HK:=n4_
         have HB:=n5_
         clear n0_ n1_ n2_ n3_ n4_ n5_
         have hHeld:w45.cell? (ad164.add ((t153).toNat * 3))=some (.int .i64 ((rd_T43 y150 t153).f0))∧w45.cell? ⟨(ad164.add ((t153).toNat * 3)).block,(ad164.add ((t153).toNat * 3)).off+1,none⟩=some (.int .i64 ((rd_T43 y150 t153).f1))∧w45.cell? ⟨(ad164.add ((t153).toNat * 3)).block,(ad164.add ((t153).toNat * 3)).off+2,none⟩=some (.string ((rd_T43 y150 t153).f2)):=hS_
         obtain ⟨co46,eo46⟩:=HA_HO167.out
         clear HA_HO167
         subst eo46
         have p33:0≤(t153:Int):=of_decide_eq_true qz6
         have q33:(t153:Int)<((y150.length:Int):Int):=of_decide_eq_true qz6
         obtain ⟨go33,co33,eo33,gb33,gl33,cl33,HG33⟩:=Kd.R_form HO152.out (by omega)
         (first|cases eo33|(injection eo33 with ea_ en_ ec_;(first|subst ea_|(injection ea_ with ea_;subst ea_));subst ec_;clear en_))
         have GB33:=Aside0.mk gb33
         have GG33:=Aside0.mk HG33
         clear gb33 gl33 HG33
         (first|simp only [add_plain] at hx164_0|skip)
         (first|simp only [add_plain] at hx164_1|skip)
         (first|simp only [add_plain] at hx164_2|skip)
         obtain ⟨ce33,hcl33,hM33,hcc33,hfr33⟩:=Kd.R_elem HO152.out z43 (t153:Int) p33 q33
         obtain rfl:=k43_openM hM33
         have hx33_0:World.cell? _ ⟨go33,(t153:Int).toNat * 3,none⟩=some (.int .i64 ((rd_T43 y150 t153).f0)):=hcc33 0 _ rfl
         have hx33_1:World.cell? _ ⟨go33,(t153:Int).toNat * 3+1,none⟩=some (.int .i64 ((rd_T43 y150 t153).f1)):=hcc33 1 _ rfl
         have hx33_2:World.cell? _ ⟨go33,(t153:Int).toNat * 3+2,none⟩=some (.string ((rd_T43 y150 t153).f2)):=hcc33 2 _ rfl
         have hf33_0:World.frozen? _ ⟨go33,(t153:Int).toNat * 3,none⟩=false:=hfr33 0
         have hf33_1:World.frozen? _ ⟨go33,(t153:Int).toNat * 3+1,none⟩=false:=hfr33 1
         have hf33_2:World.frozen? _ ⟨go33,(t153:Int).toNat * 3+2,none⟩=false:=hfr33 2
         (try clear hcl33);(try clear hcc33);(try clear hfr33);(try clear hM33)
         replace p33:=eq_true p33
         replace q33:=eq_true q33
         have HN0_go33:=Aside0.mk (show g≠go33 from by have h_:=IsS61.own_ne HI0.out HO152.out (by decide);intro e_;exact h_ (by rw [e_];rfl))
         obtain ⟨ce47,hcl47,hM47,hcc47,hfr47⟩:=Kd.R_elem HO152.out z43 (t153:Int) (of_decide_eq_true qz6) (by have h_:(t153:Int)<((y150.length:Int):Int):=of_decide_eq_true qz6;first|exact h_|(have e_:=(Kd.R_reads' HO152.out).1;omega)|simpa using h_)
         obtain rfl:=k43_openM hM47
         have HP47:=(Kd.R_seg HO152.out (t153:Int) (of_decide_eq_true qz6) (by have h_:(t153:Int)<((y150.length:Int):Int):=of_decide_eq_true qz6;first|exact h_|(have e_:=(Kd.R_reads' HO152.out).1;omega)|simpa using h_) (seg:=[.int .i64 (wrap64 (((rd_T43 y150 t153).f1)+(rd y165 t168)))]) (j:=1) hcl47 hcc47 (show 2≤3 from by decide) (x':=(⟨(rd_T43 y150 t153).f0,wrap64 (((rd_T43 y150 t153).f1)+(rd y165 t168)),(rd_T43 y150 t153).f2⟩:S43)) (k43_mkM _ _ _ (⟨(rd_T43 y150 t153).f0,wrap64 (((rd_T43 y150 t153).f1)+(rd y165 t168)),(rd_T43 y150 t153).f2⟩:S43) ) (fun _ hk=>hk)).1
         rw [← Ny171.out] at HP47
         have HQ47:=Aside0.mk HP47
         (try clear hcl47);(try clear hcc47);(try clear hfr47);(try clear hM47);(try clear HP47)
         refine norm_ (a':=?_) ?_ ?_
         rotate_left
         ·simp only [putAll,Act.put,List.setIfInBounds_toArray,List.set_cons_zero,List.set_cons_succ]
          rfl
         refine pure_ (i:=10) (N:=some 51) (v:=?_) (a':=?_) #[true,true,true,true,true,true,true,true,true,true,true,false,false,false,false,false] rfl rfl (any_of HT_.out (by kernel_rfl)) (fun _ _ _ h=>h) (Or.inl ⟨by rfl,?_⟩) ?_ ?_
         rotate_left
         ·intro w'
          go_simp
          with_reducible rfl
         rotate_left
         ·simp only [Act.put,List.setIfInBounds_toArray,List.set_cons_zero,List.set_cons_succ,i64_w,i32_w]
          rfl
         refine one_ (i:=11) (N:=some 52) #[true,true,true,true,true,true,true,true,true,true,true,true,false,false,false,false] rfl rfl (one_of HT_.out (by kernel_rfl)) (by decide) (fun K hK=>?_)
         (have p170:0≤(t168:Int):=of_decide_eq_true qz6;have q170:t168<(y165.length:Int):=of_decide_eq_true qz6;obtain ⟨ad170,e170,hx170_0⟩:=Kd.at_int (Kd.R_reads' HO167.out).2.2 t168 p170 q170;obtain rfl:adz_v166=ad170:=(by injection e170))
         refine value_ (w1:=?_) (v:=?_) (by rfl) rfl ?_ ?_
         rotate_left 2
         ·go_simp
          constructor
          ·rfl
          ·rfl
         clear hx170_0
         refine hK.out _ _ ⟨hHeld.1,hHeld.2.1,hHeld.2.2⟩ (fun hHeld=>?_)
         clear hK K
         refine norm_ (a':=?_) ?_ ?_
         rotate_left
         ·show Act.put _ (some 52) _=_
          simp only [Act.put,List.setIfInBounds_toArray,List.set_cons_zero,List.set_cons_succ,i64_w,i32_w]
          rfl
         refine pure_ (i:=12) (N:=some 53) (v:=?_) (a':=?_) #[true,true,true,true,true,true,true,true,true,true,true,true,true,false,false,false] rfl rfl (any_of HT_.out (by kernel_rfl)) (fun _ _ _ h=>h) (Or.inl ⟨by rfl,?_⟩) ?_ ?_
         rotate_left
         ·intro w'
          go_simp
          with_reducible rfl
         rotate_left
         ·simp only [Act.put,List.setIfInBounds_toArray,List.set_cons_zero,List.set_cons_succ,i64_w,i32_w]
          rfl
         refine pure_ (i:=13) (N:=some 54) (v:=?_) (a':=?_) #[true,true,true,true,true,true,true,true,true,true,true,true,true,true,false,false] rfl rfl (any_of HT_.out (by kernel_rfl)) (fun _ _ _ h=>h) (Or.inl ⟨by rfl,?_⟩) ?_ ?_
         rotate_left
         ·intro w'
          go_simp
          with_reducible rfl
         rotate_left
         ·simp only [Act.put,List.setIfInBounds_toArray,List.set_cons_zero,List.set_cons_succ,i64_w,i32_w]
          rfl
         refine pure_ (i:=14) (N:=some 55) (v:=?_) (a':=?_) #[true,true,true,true,true,true,true,true,true,true,true,true,true,true,true,false] rfl rfl (any_of HT_.out (by kernel_rfl)) (fun _ _ _ h=>h) (Or.inl ⟨by rfl,?_⟩) ?_ ?_
         rotate_left
         ·intro w'
          go_simp
          with_reducible rfl
         rotate_left
         ·simp only [Act.put,List.setIfInBounds_toArray,List.set_cons_zero,List.set_cons_succ,i64_w,i32_w]
          rfl
         refine last_ (i:=15) (N:=none) #[true,true,true,true,true,true,true,true,true,true,true,true,true,true,true,true] rfl rfl (one_of HT_.out (by kernel_rfl)) (by decide) (fun K hK=>?_)
         refine skip_ (w1:=?_) (by rfl) rfl ?_ ?_
         rotate_left
         ·go_simp
          rfl
         refine hK.out _ _ ?_
         clear hK K
         refine done_ (done_of HT_.out (by kernel_rfl)) ?_
         try go_wp2
         go_ret
         exact ⟨_,qz8,by (with_reducible repeat (first|apply Kd.R_alloc|apply Kd.R_drewN|apply Kd.R_drew));exact HQ47.out,by repeat (first|(with_reducible first|exact HI0.out|apply IsS61.alloc|apply IsS61.drewN|apply IsS61.drew|apply IsS61.set_1|refine IsS61.far ?_ HN0_go33.out _)|exact HI0.out),by repeat (first|(with_reducible first|exact HB.out|apply below_alloc|apply pw_below_drewN|apply below_drew1|refine below_set ?_ (Nat.le_trans HL.out GB33.out)|refine below_set ?_ (IsS61.ge HI0.out))|exact HB.out),by repeat (first|(with_reducible first|exact HK.out|apply KeepBut.set_|apply keep_drewN|apply keep_drew|apply keep_alloc|refine keep_far ?_ GB33.out _)|exact HK.out)⟩
        ·rw [if_neg c32] at H
         exact absurd H (by simp)
       ·rw [if_neg c31] at H
        exact absurd H (by simp)
      ·rw [if_neg c29] at H
       exact absurd H (by simp)
     ·rw [if_neg c28] at H
      exact absurd H (by simp)
    ·rw [if_neg c27] at H
     have c27b0:(t155 == 2)=false:=beq_eq_false_iff_ne.mpr c27
     have c27b1:(t155 != 2)=true:=bne_iff_ne.mpr c27
     by_cases c48:t155=3
     ·rw [if_pos c48] at H
      have c48b0:(t155 == 3)=true:=beq_iff_eq.mpr c48
      have c48b1:(t155 != 3)=false:=bne_eq_false_iff_eq.mpr c48
      clear c48
      obtain ⟨y172,hy172⟩:∃ y_:List ByteArray,y_=(([(⟨#[]⟩:ByteArray),(⟨#[116,111,111,108,111,110,103,110,97,109,101]⟩:ByteArray),(⟨#[65]⟩:ByteArray),(⟨#[97]⟩:ByteArray)]:List ByteArray)):=⟨_,rfl⟩
      replace H:((spec_l20Rd_pick.f k s0_0 t156 4).bind fun bt175=>(if 0≤bt175.1 then (if bt175.1<(y172.length:Int) then (if 0≤t153 then (if t153<(y150.length:Int) then (some ((y150.set (t153:Int).toNat (⟨(rd_T43 y150 t153).f0,(rd_T43 y150 t153).f1,rdOf ByteArray.empty y172 bt175.1⟩:S43)),bt175.2)) else (none)) else (none)) else (none)) else (none)))=some (r1,r2):=by first|(rw [hy172];exact H)|exact H
      have Ny172:=Aside0.mk hy172
      clear hy172
      replace H:=Option.bind_eq_some_iff.mp H
      obtain ⟨⟨t175,t176⟩,A490,H⟩:=H
      try dsimp only at H
      have A49:=Aside0.mk A490
      clear A490
      by_cases c50:0≤t175
      ·rw [if_pos c50] at H
       have c50b0:decide (0≤t175)=true:=decide_eq_true c50
       clear c50
       by_cases c51:t175<(y172.length:Int)
       ·rw [if_pos c51] at H
        have c51b0:decide (t175<(y172.length:Int))=true:=decide_eq_true c51
        clear c51
        by_cases c52:0≤t153
        ·rw [if_pos c52] at H
         have c52b0:decide (0≤t153)=true:=decide_eq_true c52
         clear c52
         by_cases c53:t153<(y150.length:Int)
         ·rw [if_pos c53] at H
          have c53b0:decide (t153<(y150.length:Int))=true:=decide_eq_true c53
          clear c53
          obtain ⟨y178,hy178⟩:∃ y_:List (S43),y_=(y150.set (t153:Int).toNat (⟨(rd_T43 y150 t153).f0,(rd_T43 y150 t153).f1,rdOf ByteArray.empty y172 t175⟩:S43)):=⟨_,rfl⟩
          replace H:(some (y178,t176))=some (r1,r2):=by first|(rw [hy178];exact H)|exact H
          have Ny178:=Aside0.mk hy178
          clear hy178
          simp only [Option.some.injEq,Prod.mk.injEq] at H
          obtain ⟨rfl,rfl⟩:=H
          go_enter Tryz.func32,Tryz.ntmps32
          go_wp2_with (first|((with_reducible refine gate_dst (N:=7) rfl ?_);refine Kd.R_lit k43 _ 43 ?hg (N:=7) ?hd (xs:=([]:List (S43))) (inner:=[]) (ok:=fun _=>True) (okp:=fun _=>True) ?hr ?hp (fun _ hk=>hk) trivial (Below.refl _ _) (Nat.le_refl _) (by simp) ?_;(case hd=>rfl);(case hg=>rfl);(case hr=>first|(go_simp;done)|(go_simp;rfl));(case hp=>exact (Reps.none _ _));intro v148 w55 ho56 hb hg_ hnew_;clear hg_ hnew_;(first|rw [← Ny147.out] at ho56|(simp only [Int.reduceToNat] at ho56;rw [← Ny147.out] at ho56));have n0_:=Aside0.mk (Kd.R_lower ho56 (keep_size (w:=w) (g:=g) (row:=none) qz2));have n1_:=Aside0.mk (IsS61.below qz1 hb);have n2_:=Aside0.mk (KeepBut.trans qz2 (KeepBut.of_below hb g none) (.inl rfl));have n3_:=Aside0.mk (below_step qz3 hb);clear HI0 HK HB;have HO149:=n0_;have HI0:=n1_;have HK:=n2_;have HB:=n3_;clear n0_ n1_ n2_ n3_ hb ho56)|((with_reducible refine gate_builtin (b:=.append) (xs:=#[.tmp 7,.tmp 8]) rfl ?_);at_builtin;refine Kd.R_append_rows k43 w.heap.size rfl (.tmp 7) (.tmp 8) 23 43 (.agg #[(.int .i64 0),(.int .i64 0),(.string ⟨#[]⟩)]) 32 rfl Tryz.underlying23 info43 rfl (by decide) (by omega) v148 y147 l1 _ _ _ (fun _=>True) (fun _=>False) rfl rfl ?aO ?aR (fun _ _ h=>h) (fun _ h=>h.elim) ?aF (Below.refl _ _) ?aS ?aL ?_;(case aR=>exact Kd.C_foot_now HR1.out qz2);(case aF=>exact (fun _ _=>trivial));(case aO=>exact qz46);(case aS=>exact (keep_size (w:=w) (g:=g) (row:=none) qz2));(case aL=>have:=LMc3.out;omega);intro v151 w57 ho hb hg hat;rw [← Ny150.out] at ho;have n0_:=Aside0.mk (IsS61.grown qz1 hg (IsS61.own_ne HI0.out HO149.out (by decide)));have n1_:=Aside0.mk (below_weaken qz3 HL.out hb);have n2_:=Aside0.mk (KeepBut.trans qz2 (KeepBut.of_grown hg g) (Kd.R_base2 HO149.out));have n3_:=Aside0.mk (ho);clear HI0 HB HK HO149;have HI0:=n0_;have HB:=n1_;have HK:=n2_;have HO152:=n3_;clear n0_ n1_ n2_ n3_ ho hb hg hat;obtain ⟨Ao58,co58,eo58⟩:=Kd.R_slice HO152.out;subst eo58)|((with_reducible refine gate_callee (f:=16) rfl ?_);refine goesL_ (some 13) rfl rfl Tryz.func16 (by kernel_rfl) rfl #[.pointer (some ⟨g,0,none⟩),.int .i64 (y150.length:Int)] rfl qz4 ?_;(with_reducible refine (spec_l20Rd_pick.calls k g s0_0 s0_1 (y150.length:Int) t153 t154 w0 _ ?side1 ?side2 A4.out).mono ?_);(case side1=>exact qz1);(case side2=>exact qz3);rintro e w59 ⟨rfl,hi,hb,hk⟩;refine ⟨_,rfl,?_⟩;have n0_:=Aside0.mk (Kd.R_mono (Kd.R_keep (IsS61.apart (show IsS61 w0 _ g s0_0 s0_1 from qz1) qz12 (by decide)) hk (fun _ h=>h.2)) (fun _ h=>h.1));have n1_:=Aside0.mk (KeepBut.trans qz2 hk (.inl rfl));have n2_:=Aside0.mk (hb);have n3_:=Aside0.mk (hi);clear HO152 HK HB HI0;have HO152:=n0_;have HK:=n1_;have HB:=n2_;have HI0:=n3_;clear n0_ n1_ n2_ n3_;(try clear hb);(try clear hb2);(try clear hk);(try clear hi))|((with_reducible refine gate_callee (f:=16) rfl ?_);refine goesL_ (some 15) rfl rfl Tryz.func16 (by kernel_rfl) rfl #[.pointer (some ⟨g,0,none⟩),.int .i64 7] rfl qz4 ?_;(with_reducible refine (spec_l20Rd_pick.calls k g s0_0 t154 7 t155 t156 w0 _ ?side1 ?side2 A5.out).mono ?_);(case side1=>exact qz1);(case side2=>exact qz3);rintro e w60 ⟨rfl,hi,hb,hk⟩;refine ⟨_,rfl,?_⟩;have n0_:=Aside0.mk (Kd.R_mono (Kd.R_keep (IsS61.apart (show IsS61 w0 _ g s0_0 t154 from qz1) qz12 (by decide)) hk (fun _ h=>h.2)) (fun _ h=>h.1));have n1_:=Aside0.mk (KeepBut.trans qz2 hk (.inl rfl));have n2_:=Aside0.mk (hb);have n3_:=Aside0.mk (hi);clear HO152 HK HB HI0;have HO152:=n0_;have HK:=n1_;have HB:=n2_;have HI0:=n3_;clear n0_ n1_ n2_ n3_;(try clear hb);(try clear hb2);(try clear hk);(try clear hi))|((with_reducible refine gate_dst (N:=60) rfl ?_);refine Kd.R_lit Kd.string _ 9 ?hg (N:=60) ?hd (xs:=([(⟨#[]⟩:ByteArray),(⟨#[116,111,111,108,111,110,103,110,97,109,101]⟩:ByteArray),(⟨#[65]⟩:ByteArray),(⟨#[97]⟩:ByteArray)]:List ByteArray)) (inner:=[.string (⟨#[]⟩:ByteArray),.string (⟨#[116,111,111,108,111,110,103,110,97,109,101]⟩:ByteArray),.string (⟨#[65]⟩:ByteArray),.string (⟨#[97]⟩:ByteArray)]) (ok:=fun _=>True) (okp:=fun _=>True) ?hr ?hp (fun _ hk=>hk) trivial (Below.refl _ _) (Nat.le_refl _) (by simp) ?_;(case hd=>rfl);(case hg=>rfl);(case hr=>first|(go_simp;done)|(go_simp;rfl));(case hp=>exact (Reps.one (show Kd.M Kd.string _ _ _ (⟨#[]⟩:ByteArray) [.string (⟨#[]⟩:ByteArray)] from rfl) (Reps.one (show Kd.M Kd.string _ _ _ (⟨#[116,111,111,108,111,110,103,110,97,109,101]⟩:ByteArray) [.string (⟨#[116,111,111,108,111,110,103,110,97,109,101]⟩:ByteArray)] from rfl) (Reps.one (show Kd.M Kd.string _ _ _ (⟨#[65]⟩:ByteArray) [.string (⟨#[65]⟩:ByteArray)] from rfl) (Reps.one (show Kd.M Kd.string _ _ _ (⟨#[97]⟩:ByteArray) [.string (⟨#[97]⟩:ByteArray)] from rfl) (Reps.none _ _))))));intro v173 w61 ho62 hb hg_ hnew_;clear hg_ hnew_;(first|rw [← Ny172.out] at ho62|(simp only [Int.reduceToNat] at ho62;rw [← Ny172.out] at ho62));have n0_:=Aside0.mk (Kd.R_below qz12 hb);have n1_:=Aside0.mk (Kd.R_lower ho62 (keep_size (w:=w) (g:=g) (row:=none) qz2));have n2_:=Aside0.mk (IsS61.below qz1 hb);have n3_:=Aside0.mk (KeepBut.trans qz2 (KeepBut.of_below hb g none) (.inl rfl));have n4_:=Aside0.mk (below_step qz3 hb);clear HO152 HI0 HK HB;have HO152:=n0_;have HO174:=n1_;have HI0:=n2_;have HK:=n3_;have HB:=n4_;clear n0_ n1_ n2_ n3_ n4_ hb ho62)|((with_reducible refine gate_callee (f:=16) rfl ?_);refine goesL_ (some 62) rfl rfl Tryz.func16 (by kernel_rfl) rfl #[.pointer (some ⟨g,0,none⟩),.int .i64 4] rfl qz4 ?_;(with_reducible refine (spec_l20Rd_pick.calls k g s0_0 t156 4 t175 t176 w0 _ ?side1 ?side2 A49.out).mono ?_);(case side1=>exact qz1);(case side2=>exact qz3);rintro e w63 ⟨rfl,hi,hb,hk⟩;refine ⟨_,rfl,?_⟩;have n0_:=Aside0.mk (Kd.R_mono (Kd.R_keep (IsS61.apart (show IsS61 w0 _ g s0_0 t156 from qz1) qz12 (by decide)) hk (fun _ h=>h.2)) (fun _ h=>h.1));have n1_:=Aside0.mk (Kd.R_mono (Kd.R_keep (IsS61.apart (show IsS61 w0 _ g s0_0 t156 from qz1) (by (with_reducible repeat (first|apply Kd.R_alloc|apply Kd.R_drewN|apply Kd.R_drew));exact HO174.out) (by decide)) hk (fun _ h=>h.2)) (fun _ h=>h.1));have n2_:=Aside0.mk (KeepBut.trans qz2 hk (.inl rfl));have n3_:=Aside0.mk (hb);have n4_:=Aside0.mk (hi);clear HO152 HO174 HK HB HI0;have HO152:=n0_;have HO174:=n1_;have HK:=n2_;have HB:=n3_;have HI0:=n4_;clear n0_ n1_ n2_ n3_ n4_;(try clear hb);(try clear hb2);(try clear hk);(try clear hi);obtain ⟨Ao64,co64,eo64⟩:=Kd.R_slice HO174.out;subst eo64;have p177:0≤(t175:Int):=of_decide_eq_true qz6;have q177:t175<(y172.length:Int):=of_decide_eq_true qz6;obtain ⟨ad177,e177,hx177_0⟩:=Kd.at_string (Kd.R_reads' HO174.out).2.2 t175 p177 q177;cases e177;replace p177:=eq_true p177;replace q177:=eq_true q177;have p54:0≤(t153:Int):=of_decide_eq_true qz6;have q54:(t153:Int)<((y150.length:Int):Int):=of_decide_eq_true qz6;obtain ⟨go54,co54,eo54,gb54,gl54,cl54,HG54⟩:=Kd.R_form HO152.out (by omega);(first|cases eo54|(injection eo54 with ea_ en_ ec_;(first|subst ea_|(injection ea_ with ea_;subst ea_));subst ec_;clear en_));have GB54:=Aside0.mk gb54;have GG54:=Aside0.mk HG54;clear gb54 gl54 HG54;obtain ⟨ce54,hcl54,hM54,hcc54,hfr54⟩:=Kd.R_elem HO152.out z43 (t153:Int) p54 q54;obtain rfl:=k43_openM hM54;have hx54_0:w63.cell? ⟨go54,(t153:Int).toNat * 3,none⟩=some (.int .i64 ((rd_T43 y150 t153).f0)):=hcc54 0 _ rfl;have hx54_1:w63.cell? ⟨go54,(t153:Int).toNat * 3+1,none⟩=some (.int .i64 ((rd_T43 y150 t153).f1)):=hcc54 1 _ rfl;have hx54_2:w63.cell? ⟨go54,(t153:Int).toNat * 3+2,none⟩=some (.string ((rd_T43 y150 t153).f2)):=hcc54 2 _ rfl;have hf54_0:w63.frozen? ⟨go54,(t153:Int).toNat * 3,none⟩=false:=hfr54 0;have hf54_1:w63.frozen? ⟨go54,(t153:Int).toNat * 3+1,none⟩=false:=hfr54 1;have hf54_2:w63.frozen? ⟨go54,(t153:Int).toNat * 3+2,none⟩=false:=hfr54 2;(try clear hcl54);(try clear hcc54);(try clear hfr54);(try clear hM54);replace p54:=eq_true p54;replace q54:=eq_true q54;have HX65:=Aside0.mk (show Kd.R k43 43 w63 w.heap.size (fun _=>True) (.slice (some ⟨go54,0,none⟩) y150.length co58) y150 from qz12);obtain ⟨ce65,hcl65,hM65,hcc65,hfr65⟩:=Kd.R_elem HX65.out z43 (t153:Int) (of_decide_eq_true qz6) (by have h_:(t153:Int)<((y150.length:Int):Int):=of_decide_eq_true qz6;first|exact h_|(have e_:=(Kd.R_reads' HO152.out).1;omega)|simpa using h_);obtain rfl:=k43_openM hM65;have HP65:=Kd.R_seg HX65.out (t153:Int) (of_decide_eq_true qz6) (by have h_:(t153:Int)<((y150.length:Int):Int):=of_decide_eq_true qz6;first|exact h_|(have e_:=(Kd.R_reads' HO152.out).1;omega)|simpa using h_) (seg:=[.string (rdOf ByteArray.empty y172 t175)]) (j:=2) hcl65 hcc65 (show 3≤3 from by decide) (x':=(⟨(rd_T43 y150 t153).f0,(rd_T43 y150 t153).f1,rdOf ByteArray.empty y172 t175⟩:S43)) (k43_mkM _ _ _ (⟨(rd_T43 y150 t153).f0,(rd_T43 y150 t153).f1,rdOf ByteArray.empty y172 t175⟩:S43) ) (fun _ hk=>hk);have hx65_2:=hcc65 2 _ rfl;(try simp only [show (k43).sz=3 from rfl,Nat.mul_one,Nat.add_zero] at hx65_2);have hf65_2:=hfr65 2;(try simp only [show (k43).sz=3 from rfl,Nat.mul_one,Nat.add_zero] at hf65_2);clear hcl65 hcc65 hfr65 hM65)|((with_reducible refine gate_store (t:=9) (p:=66) rfl ?_);refine store_event (t:=9) (p:=66) (v:=?vo_w66) (w1:=(w63.setCell ⟨go54,(t153:Int).toNat * 3+2,none⟩ (.string (rdOf ByteArray.empty y172 t175)))) ?hg ?ho ?hn ?hr ?_;(case ho=>rfl);(case hg=>rfl);(case hn=>rfl);(case hr=>first|(go_simp;done)|(go_simp;rfl));intro w66 hw;have hg:w63.grownBy w66 (some go54):=(by rw [hw];exact HP65.2);have hp_:Kd.R k43 43 w66 w.heap.size (fun _=>True) (.slice (some ⟨go54,0,none⟩) y150.length co58) y178:=(by rw [hw,Ny178.out];exact HP65.1);clear HP65;have n0_:=Aside0.mk (IsS61.grown qz1 hg (IsS61.own_ne HI0.out HO152.out (by decide)));have n1_:=Aside0.mk (hp_);have n2_:=Aside0.mk (Kd.R_over' (v:=(.slice (some ⟨go54,0,none⟩) y150.length co58)) (by (with_reducible repeat (first|apply Kd.R_alloc|apply Kd.R_drewN|apply Kd.R_drew));exact HO174.out) (Kd.R_typed HO152.out) (by decide) hg);have n3_:=Aside0.mk ((by rw [hw];exact below_set (HB.out) (Nat.le_trans HL.out GB54.out):Below w0.heap.size w0 w66));have n4_:=Aside0.mk (KeepBut.trans qz2 (KeepBut.of_grown hg g) (Kd.R_base2 HO152.out));clear HI0 HO152 HO174 HB HK;have HI0:=n0_;have HO152:=n1_;have HO174:=n2_;have HB:=n3_;have HK:=n4_;clear n0_ n1_ n2_ n3_ n4_ hg hw hp_))
          go_ret
          exact ⟨_,qz8,qz12,qz1,qz3,qz2⟩
         ·rw [if_neg c53] at H
          exact absurd H (by simp)
        ·rw [if_neg c52] at H
         exact absurd H (by simp)
       ·rw [if_neg c51] at H
        exact absurd H (by simp)
      ·rw [if_neg c50] at H
       exact absurd H (by simp)
     ·rw [if_neg c48] at H
      have c48b0:(t155 == 3)=false:=beq_eq_false_iff_ne.mpr c48
      have c48b1:(t155 != 3)=true:=bne_iff_ne.mpr c48
      by_cases c67:t155=4
      ·rw [if_pos c67] at H
       have c67b0:(t155 == 4)=true:=beq_iff_eq.mpr c67
       have c67b1:(t155 != 4)=false:=bne_eq_false_iff_eq.mpr c67
       clear c67
       replace H:=Option.bind_eq_some_iff.mp H
       obtain ⟨⟨t179,t180⟩,A680,H⟩:=H
       try dsimp only at H
       have A68:=Aside0.mk A680
       clear A680
       by_cases c69:0≤t153
       ·rw [if_pos c69] at H
        have c69b0:decide (0≤t153)=true:=decide_eq_true c69
        clear c69
        by_cases c70:t153<(y150.length:Int)
        ·rw [if_pos c70] at H
         have c70b0:decide (t153<(y150.length:Int))=true:=decide_eq_true c70
         clear c70
         obtain ⟨y181,hy181⟩:∃ y_:List (S43),y_=(y150.set (t153:Int).toNat (⟨t179,(rd_T43 y150 t153).f1,(rd_T43 y150 t153).f2⟩:S43)):=⟨_,rfl⟩
         replace H:(some (y181,t180))=some (r1,r2):=by first|(rw [hy181];exact H)|exact H
         have Ny181:=Aside0.mk hy181
         clear hy181
         simp only [Option.some.injEq,Prod.mk.injEq] at H
         obtain ⟨rfl,rfl⟩:=H
         go_enter Tryz.func32,Tryz.ntmps32
         go_wp2_with (first|((with_reducible refine gate_dst (N:=7) rfl ?_);refine Kd.R_lit k43 _ 43 ?hg (N:=7) ?hd (xs:=([]:List (S43))) (inner:=[]) (ok:=fun _=>True) (okp:=fun _=>True) ?hr ?hp (fun _ hk=>hk) trivial (Below.refl _ _) (Nat.le_refl _) (by simp) ?_;(case hd=>rfl);(case hg=>rfl);(case hr=>first|(go_simp;done)|(go_simp;rfl));(case hp=>exact (Reps.none _ _));intro v148 w72 ho73 hb hg_ hnew_;clear hg_ hnew_;(first|rw [← Ny147.out] at ho73|(simp only [Int.reduceToNat] at ho73;rw [← Ny147.out] at ho73));have n0_:=Aside0.mk (Kd.R_lower ho73 (keep_size (w:=w) (g:=g) (row:=none) qz2));have n1_:=Aside0.mk (IsS61.below qz1 hb);have n2_:=Aside0.mk (KeepBut.trans qz2 (KeepBut.of_below hb g none) (.inl rfl));have n3_:=Aside0.mk (below_step qz3 hb);clear HI0 HK HB;have HO149:=n0_;have HI0:=n1_;have HK:=n2_;have HB:=n3_;clear n0_ n1_ n2_ n3_ hb ho73)|((with_reducible refine gate_builtin (b:=.append) (xs:=#[.tmp 7,.tmp 8]) rfl ?_);at_builtin;refine Kd.R_append_rows k43 w.heap.size rfl (.tmp 7) (.tmp 8) 23 43 (.agg #[(.int .i64 0),(.int .i64 0),(.string ⟨#[]⟩)]) 32 rfl Tryz.underlying23 info43 rfl (by decide) (by omega) v148 y147 l1 _ _ _ (fun _=>True) (fun _=>False) rfl rfl ?aO ?aR (fun _ _ h=>h) (fun _ h=>h.elim) ?aF (Below.refl _ _) ?aS ?aL ?_;(case aR=>exact Kd.C_foot_now HR1.out qz2);(case aF=>exact (fun _ _=>trivial));(case aO=>exact qz46);(case aS=>exact (keep_size (w:=w) (g:=g) (row:=none) qz2));(case aL=>have:=LMc3.out;omega);intro v151 w74 ho hb hg hat;rw [← Ny150.out] at ho;have n0_:=Aside0.mk (IsS61.grown qz1 hg (IsS61.own_ne HI0.out HO149.out (by decide)));have n1_:=Aside0.mk (below_weaken qz3 HL.out hb);have n2_:=Aside0.mk (KeepBut.trans qz2 (KeepBut.of_grown hg g) (Kd.R_base2 HO149.out));have n3_:=Aside0.mk (ho);clear HI0 HB HK HO149;have HI0:=n0_;have HB:=n1_;have HK:=n2_;have HO152:=n3_;clear n0_ n1_ n2_ n3_ ho hb hg hat;obtain ⟨Ao75,co75,eo75⟩:=Kd.R_slice HO152.out;subst eo75)|((with_reducible refine gate_callee (f:=16) rfl ?_);refine goesL_ (some 13) rfl rfl Tryz.func16 (by kernel_rfl) rfl #[.pointer (some ⟨g,0,none⟩),.int .i64 (y150.length:Int)] rfl qz4 ?_;(with_reducible refine (spec_l20Rd_pick.calls k g s0_0 s0_1 (y150.length:Int) t153 t154 w0 _ ?side1 ?side2 A4.out).mono ?_);(case side1=>exact qz1);(case side2=>exact qz3);rintro e w76 ⟨rfl,hi,hb,hk⟩;refine ⟨_,rfl,?_⟩;have n0_:=Aside0.mk (Kd.R_mono (Kd.R_keep (IsS61.apart (show IsS61 w0 _ g s0_0 s0_1 from qz1) qz12 (by decide)) hk (fun _ h=>h.2)) (fun _ h=>h.1));have n1_:=Aside0.mk (KeepBut.trans qz2 hk (.inl rfl));have n2_:=Aside0.mk (hb);have n3_:=Aside0.mk (hi);clear HO152 HK HB HI0;have HO152:=n0_;have HK:=n1_;have HB:=n2_;have HI0:=n3_;clear n0_ n1_ n2_ n3_;(try clear hb);(try clear hb2);(try clear hk);(try clear hi))|((with_reducible refine gate_callee (f:=16) rfl ?_);refine goesL_ (some 15) rfl rfl Tryz.func16 (by kernel_rfl) rfl #[.pointer (some ⟨g,0,none⟩),.int .i64 7] rfl qz4 ?_;(with_reducible refine (spec_l20Rd_pick.calls k g s0_0 t154 7 t155 t156 w0 _ ?side1 ?side2 A5.out).mono ?_);(case side1=>exact qz1);(case side2=>exact qz3);rintro e w77 ⟨rfl,hi,hb,hk⟩;refine ⟨_,rfl,?_⟩;have n0_:=Aside0.mk (Kd.R_mono (Kd.R_keep (IsS61.apart (show IsS61 w0 _ g s0_0 t154 from qz1) qz12 (by decide)) hk (fun _ h=>h.2)) (fun _ h=>h.1));have n1_:=Aside0.mk (KeepBut.trans qz2 hk (.inl rfl));have n2_:=Aside0.mk (hb);have n3_:=Aside0.mk (hi);clear HO152 HK HB HI0;have HO152:=n0_;have HK:=n1_;have HB:=n2_;have HI0:=n3_;clear n0_ n1_ n2_ n3_;(try clear hb);(try clear hb2);(try clear hk);(try clear hi))|((with_reducible refine gate_callee (f:=16) rfl ?_);refine goesL_ (some 72) rfl rfl Tryz.func16 (by kernel_rfl) rfl #[.pointer (some ⟨g,0,none⟩),.int .i64 5] rfl qz4 ?_;(with_reducible refine (spec_l20Rd_pick.calls k g s0_0 t156 5 t179 t180 w0 _ ?side1 ?side2 A68.out).mono ?_);(case side1=>exact qz1);(case side2=>exact qz3);rintro e w78 ⟨rfl,hi,hb,hk⟩;refine ⟨_,rfl,?_⟩;have n0_:=Aside0.mk (Kd.R_mono (Kd.R_keep (IsS61.apart (show IsS61 w0 _ g s0_0 t156 from qz1) qz12 (by decide)) hk (fun _ h=>h.2)) (fun _ h=>h.1));have n1_:=Aside0.mk (KeepBut.trans qz2 hk (.inl rfl));have n2_:=Aside0.mk (hb);have n3_:=Aside0.mk (hi);clear HO152 HK HB HI0;have HO152:=n0_;have HK:=n1_;have HB:=n2_;have HI0:=n3_;clear n0_ n1_ n2_ n3_;(try clear hb);(try clear hb2);(try clear hk);(try clear hi);have p71:0≤(t153:Int):=of_decide_eq_true qz6;have q71:(t153:Int)<((y150.length:Int):Int):=of_decide_eq_true qz6;obtain ⟨go71,co71,eo71,gb71,gl71,cl71,HG71⟩:=Kd.R_form HO152.out (by omega);(first|cases eo71|(injection eo71 with ea_ en_ ec_;(first|subst ea_|(injection ea_ with ea_;subst ea_));subst ec_;clear en_));have GB71:=Aside0.mk gb71;have GG71:=Aside0.mk HG71;clear gb71 gl71 HG71;obtain ⟨ce71,hcl71,hM71,hcc71,hfr71⟩:=Kd.R_elem HO152.out z43 (t153:Int) p71 q71;obtain rfl:=k43_openM hM71;have hx71_0:w78.cell? ⟨go71,(t153:Int).toNat * 3,none⟩=some (.int .i64 ((rd_T43 y150 t153).f0)):=hcc71 0 _ rfl;have hx71_1:w78.cell? ⟨go71,(t153:Int).toNat * 3+1,none⟩=some (.int .i64 ((rd_T43 y150 t153).f1)):=hcc71 1 _ rfl;have hx71_2:w78.cell? ⟨go71,(t153:Int).toNat * 3+2,none⟩=some (.string ((rd_T43 y150 t153).f2)):=hcc71 2 _ rfl;have hf71_0:w78.frozen? ⟨go71,(t153:Int).toNat * 3,none⟩=false:=hfr71 0;have hf71_1:w78.frozen? ⟨go71,(t153:Int).toNat * 3+1,none⟩=false:=hfr71 1;have hf71_2:w78.frozen? ⟨go71,(t153:Int).toNat * 3+2,none⟩=false:=hfr71 2;(try clear hcl71);(try clear hcc71);(try clear hfr71);(try clear hM71);replace p71:=eq_true p71;replace q71:=eq_true q71;have HX79:=Aside0.mk (show Kd.R k43 43 w78 w.heap.size (fun _=>True) (.slice (some ⟨go71,0,none⟩) y150.length co75) y150 from qz12);obtain ⟨ce79,hcl79,hM79,hcc79,hfr79⟩:=Kd.R_elem HX79.out z43 (t153:Int) (of_decide_eq_true qz6) (by have h_:(t153:Int)<((y150.length:Int):Int):=of_decide_eq_true qz6;first|exact h_|(have e_:=(Kd.R_reads' HO152.out).1;omega)|simpa using h_);obtain rfl:=k43_openM hM79;have HP79:=Kd.R_seg HX79.out (t153:Int) (of_decide_eq_true qz6) (by have h_:(t153:Int)<((y150.length:Int):Int):=of_decide_eq_true qz6;first|exact h_|(have e_:=(Kd.R_reads' HO152.out).1;omega)|simpa using h_) (seg:=[.int .i64 t179]) (j:=0) hcl79 hcc79 (show 1≤3 from by decide) (x':=(⟨t179,(rd_T43 y150 t153).f1,(rd_T43 y150 t153).f2⟩:S43)) (k43_mkM _ _ _ (⟨t179,(rd_T43 y150 t153).f1,(rd_T43 y150 t153).f2⟩:S43) ) (fun _ hk=>hk);have hx79_0:=hcc79 0 _ rfl;(try simp only [show (k43).sz=3 from rfl,Nat.mul_one,Nat.add_zero] at hx79_0);have hf79_0:=hfr79 0;(try simp only [show (k43).sz=3 from rfl,Nat.mul_one,Nat.add_zero] at hf79_0);clear hcl79 hcc79 hfr79 hM79)|((with_reducible refine gate_store (t:=3) (p:=74) rfl ?_);refine store_event (t:=3) (p:=74) (v:=?vo_w80) (w1:=(w78.setCell ⟨go71,(t153:Int).toNat * 3,none⟩ (.int .i64 t179))) ?hg ?ho ?hn ?hr ?_;(case ho=>rfl);(case hg=>rfl);(case hn=>rfl);(case hr=>first|(go_simp;done)|(go_simp;rfl));intro w80 hw;have hg:w78.grownBy w80 (some go71):=(by rw [hw];exact HP79.2);have hp_:Kd.R k43 43 w80 w.heap.size (fun _=>True) (.slice (some ⟨go71,0,none⟩) y150.length co75) y181:=(by rw [hw,Ny181.out];exact HP79.1);clear HP79;have n0_:=Aside0.mk (IsS61.grown qz1 hg (IsS61.own_ne HI0.out HO152.out (by decide)));have n1_:=Aside0.mk (hp_);have n2_:=Aside0.mk ((by rw [hw];exact below_set (HB.out) (Nat.le_trans HL.out GB71.out):Below w0.heap.size w0 w80));have n3_:=Aside0.mk (KeepBut.trans qz2 (KeepBut.of_grown hg g) (Kd.R_base2 HO152.out));clear HI0 HO152 HB HK;have HI0:=n0_;have HO152:=n1_;have HB:=n2_;have HK:=n3_;clear n0_ n1_ n2_ n3_ hg hw hp_))
         go_ret
         exact ⟨_,qz8,qz12,qz1,qz3,qz2⟩
        ·rw [if_neg c70] at H
         exact absurd H (by simp)
       ·rw [if_neg c69] at H
        exact absurd H (by simp)
      ·rw [if_neg c67] at H
       have c67b0:(t155 == 4)=false:=beq_eq_false_iff_ne.mpr c67
       have c67b1:(t155 != 4)=true:=bne_iff_ne.mpr c67
       by_cases c81:t155=5
       ·rw [if_pos c81] at H
        have c81b0:(t155 == 5)=true:=beq_iff_eq.mpr c81
        have c81b1:(t155 != 5)=false:=bne_eq_false_iff_eq.mpr c81
        clear c81
        have H':=Aside0.mk H
        clear H
        go_enter Tryz.func32,Tryz.ntmps32
        go_wp2_with (first|((with_reducible refine gate_dst (N:=7) rfl ?_);refine Kd.R_lit k43 _ 43 ?hg (N:=7) ?hd (xs:=([]:List (S43))) (inner:=[]) (ok:=fun _=>True) (okp:=fun _=>True) ?hr ?hp (fun _ hk=>hk) trivial (Below.refl _ _) (Nat.le_refl _) (by simp) ?_;(case hd=>rfl);(case hg=>rfl);(case hr=>first|(go_simp;done)|(go_simp;rfl));(case hp=>exact (Reps.none _ _));intro v148 w82 ho83 hb hg_ hnew_;clear hg_ hnew_;(first|rw [← Ny147.out] at ho83|(simp only [Int.reduceToNat] at ho83;rw [← Ny147.out] at ho83));have n0_:=Aside0.mk (Kd.R_lower ho83 (keep_size (w:=w) (g:=g) (row:=none) qz2));have n1_:=Aside0.mk (IsS61.below qz1 hb);have n2_:=Aside0.mk (KeepBut.trans qz2 (KeepBut.of_below hb g none) (.inl rfl));have n3_:=Aside0.mk (below_step qz3 hb);clear HI0 HK HB;have HO149:=n0_;have HI0:=n1_;have HK:=n2_;have HB:=n3_;clear n0_ n1_ n2_ n3_ hb ho83)|((with_reducible refine gate_builtin (b:=.append) (xs:=#[.tmp 7,.tmp 8]) rfl ?_);at_builtin;refine Kd.R_append_rows k43 w.heap.size rfl (.tmp 7) (.tmp 8) 23 43 (.agg #[(.int .i64 0),(.int .i64 0),(.string ⟨#[]⟩)]) 32 rfl Tryz.underlying23 info43 rfl (by decide) (by omega) v148 y147 l1 _ _ _ (fun _=>True) (fun _=>False) rfl rfl ?aO ?aR (fun _ _ h=>h) (fun _ h=>h.elim) ?aF (Below.refl _ _) ?aS ?aL ?_;(case aR=>exact Kd.C_foot_now HR1.out qz2);(case aF=>exact (fun _ _=>trivial));(case aO=>exact qz46);(case aS=>exact (keep_size (w:=w) (g:=g) (row:=none) qz2));(case aL=>have:=LMc3.out;omega);intro v151 w84 ho hb hg hat;rw [← Ny150.out] at ho;have n0_:=Aside0.mk (IsS61.grown qz1 hg (IsS61.own_ne HI0.out HO149.out (by decide)));have n1_:=Aside0.mk (below_weaken qz3 HL.out hb);have n2_:=Aside0.mk (KeepBut.trans qz2 (KeepBut.of_grown hg g) (Kd.R_base2 HO149.out));have n3_:=Aside0.mk (ho);clear HI0 HB HK HO149;have HI0:=n0_;have HB:=n1_;have HK:=n2_;have HO152:=n3_;clear n0_ n1_ n2_ n3_ ho hb hg hat;obtain ⟨Ao85,co85,eo85⟩:=Kd.R_slice HO152.out;subst eo85)|((with_reducible refine gate_callee (f:=16) rfl ?_);refine goesL_ (some 13) rfl rfl Tryz.func16 (by kernel_rfl) rfl #[.pointer (some ⟨g,0,none⟩),.int .i64 (y150.length:Int)] rfl qz4 ?_;(with_reducible refine (spec_l20Rd_pick.calls k g s0_0 s0_1 (y150.length:Int) t153 t154 w0 _ ?side1 ?side2 A4.out).mono ?_);(case side1=>exact qz1);(case side2=>exact qz3);rintro e w86 ⟨rfl,hi,hb,hk⟩;refine ⟨_,rfl,?_⟩;have n0_:=Aside0.mk (Kd.R_mono (Kd.R_keep (IsS61.apart (show IsS61 w0 _ g s0_0 s0_1 from qz1) qz12 (by decide)) hk (fun _ h=>h.2)) (fun _ h=>h.1));have n1_:=Aside0.mk (KeepBut.trans qz2 hk (.inl rfl));have n2_:=Aside0.mk (hb);have n3_:=Aside0.mk (hi);clear HO152 HK HB HI0;have HO152:=n0_;have HK:=n1_;have HB:=n2_;have HI0:=n3_;clear n0_ n1_ n2_ n3_;(try clear hb);(try clear hb2);(try clear hk);(try clear hi))|((with_reducible refine gate_callee (f:=16) rfl ?_);refine goesL_ (some 15) rfl rfl Tryz.func16 (by kernel_rfl) rfl #[.pointer (some ⟨g,0,none⟩),.int .i64 7] rfl qz4 ?_;(with_reducible refine (spec_l20Rd_pick.calls k g s0_0 t154 7 t155 t156 w0 _ ?side1 ?side2 A5.out).mono ?_);(case side1=>exact qz1);(case side2=>exact qz3);rintro e w87 ⟨rfl,hi,hb,hk⟩;refine ⟨_,rfl,?_⟩;have n0_:=Aside0.mk (Kd.R_mono (Kd.R_keep (IsS61.apart (show IsS61 w0 _ g s0_0 t154 from qz1) qz12 (by decide)) hk (fun _ h=>h.2)) (fun _ h=>h.1));have n1_:=Aside0.mk (KeepBut.trans qz2 hk (.inl rfl));have n2_:=Aside0.mk (hb);have n3_:=Aside0.mk (hi);clear HO152 HK HB HI0;have HO152:=n0_;have HK:=n1_;have HB:=n2_;have HI0:=n3_;clear n0_ n1_ n2_ n3_;(try clear hb);(try clear hb2);(try clear hk);(try clear hi)))
        go_loopg [5] k (fun kq v5 w'=>∃ (x5_1:List (S43)),Aside0 (spec_l20Spoil.l0 kq x5_1 s0_0 t156=some (r1,r2))∧Aside0 (kq≤k)∧Aside0 (Kd.R k43 43 w' w.heap.size (fun _=>True) v5 x5_1)∧Aside0 (IsS61 w0 w' g s0_0 t156)∧Aside0 (KeepBut w w' g none)∧Aside0 (Below w0.heap.size w0 w'))
        case atStart=>exact ⟨(y150),H',⟨Nat.le_refl _⟩,⟨qz12⟩,⟨qz1⟩,⟨qz2⟩,⟨qz3⟩⟩
        case round=>
         clear H'
         try clear c1
         try clear p1
         try clear q1
         try clear hx1
         try clear qi1
         try clear c2
         try clear p2
         try clear c3
         try clear p3
         try clear q3
         try clear hx3
         try clear hf3
         try clear c4
         try clear c5
         try clear p5
         try clear q5
         try clear hx5
         try clear hf5
         try clear c6
         try clear c6b0
         try clear c6b1
         try clear p6
         try clear hx6
         try clear hf6
         try clear c7
         try clear c7b0
         try clear c7b1
         try clear p7
         try clear q7
         try clear hx7
         try clear hf7
         try clear c8
         try clear c8b0
         try clear c8b1
         try clear q15
         try clear c16
         try clear c16b0
         try clear c16b1
         try clear p16
         try clear q16
         try clear hx16
         try clear c17
         try clear c17b0
         try clear p17
         try clear q17
         try clear hx17
         try clear qi17
         try clear c18
         try clear c18b0
         try clear c19
         try clear c27
         try clear c27b0
         try clear c27b1
         try clear c28
         try clear c28b0
         try clear c29
         try clear c29b0
         try clear c31
         try clear c31b0
         try clear c32
         try clear c32b0
         try clear c33
         try clear p33
         try clear q33
         try clear hx33
         try clear hf33
         try clear c47
         try clear c48
         try clear c48b0
         try clear c48b1
         try clear c50
         try clear c50b0
         try clear c51
         try clear c51b0
         try clear c52
         try clear c52b0
         try clear c53
         try clear c53b0
         try clear c54
         try clear p54
         try clear q54
         try clear hx54
         try clear hf54
         try clear p64
         try clear c65
         try clear hx65
         try clear hf65
         try clear c67
         try clear c67b0
         try clear c67b1
         try clear c69
         try clear c69b0
         try clear c70
         try clear c70b0
         try clear c71
         try clear p71
         try clear q71
         try clear hx71
         try clear hf71
         try clear c79
         try clear hx79
         try clear hf79
         try clear c81
         try clear c81b0
         try clear c81b1
         try clear hx160_0
         try clear hx160_1
         try clear hx160_2
         try clear hx164_0
         try clear hx164_1
         try clear hx164_2
         try clear hx170_0
         try clear hx177_0
         try clear hx33_0
         try clear hx33_1
         try clear hx33_2
         try clear hx54_0
         try clear hx54_1
         try clear hx54_2
         try clear hx65_2
         try clear hx71_0
         try clear hx71_1
         try clear hx71_2
         try clear hx79_0
         try clear p160
         try clear p164
         try clear p170
         try clear p177
         try clear p33
         try clear p54
         try clear p71
         try clear q15
         try clear q160
         try clear q164
         try clear q170
         try clear q177
         try clear q33
         try clear q54
         try clear q71
         obtain ⟨x5_1,HA,HK1,HO_5,HI0,HK,HB⟩:=hrel
         cases gk with
         | zero=>exact absurd HA.out (by simp [spec_l20Spoil.l0])
         | succ k1=>
          have H:=HA.out
          clear HA
          simp only [spec_l20Spoil.l0] at H
          by_cases c88:(x5_1.length:Int)≤40
          ·rw [if_pos c88] at H
           have c88b0:decide ((x5_1.length:Int)≤40)=true:=decide_eq_true c88
           have c88b1:decide (x5_1.length≤40)=true:=decide_eq_true (by omega)
           clear c88
           by_cases c89:x5_1.length<4398046511104
           ·rw [if_pos c89] at H
            have LMc89:=Aside0.mk c89
            clear c89
            obtain ⟨y182,hy182⟩:∃ y_:List (S43),y_=(x5_1++[(⟨3,1,(⟨#[102]⟩:ByteArray)⟩:S43)]):=⟨_,rfl⟩
            replace H:(spec_l20Spoil.l0 k1 y182 s0_0 t156)=some (r1,r2):=by first|(rw [hy182];exact H)|exact H
            have Ny182:=Aside0.mk hy182
            clear hy182
            have H':=Aside0.mk H
            clear H
            obtain ⟨Ao90,co90,eo90⟩:=Kd.R_slice HO_5.out
            subst eo90
            go_wp2_with (first|((with_reducible refine gate_builtin (b:=.append) (xs:=#[.tmp 80,.tmp 82]) rfl ?_);at_builtin;refine Kd.R_append k43 w.heap.size rfl (.tmp 80) (.tmp 82) 23 43 (.agg #[(.int .i64 0),(.int .i64 0),(.string ⟨#[]⟩)]) 32 rfl Tryz.underlying23 info43 rfl (by decide) (by omega) (.slice Ao90 x5_1.length co90) x5_1 (⟨3,1,(⟨#[102]⟩:ByteArray)⟩:S43) [.int .i64 3,.int .i64 1,.string (⟨#[102]⟩:ByteArray)] (fun _=>True) (fun _=>False) rfl rfl ?aP (fun _ hk=>hk.elim) ?aF ?aO (Below.refl _ _) ?aS ?aL ?_;(case aP=>exact k43_mkM _ _ _ (⟨3,1,(⟨#[102]⟩:ByteArray)⟩:S43));(case aF=>exact (fun _ _=>trivial));(case aO=>exact qz11);(case aS=>exact (keep_size (w:=w) (g:=g) (row:=none) qz2));(case aL=>have:=LMc89.out;omega);intro v183 w91 ho hb hg hat;rw [← Ny182.out] at ho;have n0_:=Aside0.mk (IsS61.grown qz1 hg (IsS61.own_ne HI0.out HO_5.out (by decide)));have n1_:=Aside0.mk (below_weaken qz3 HL.out hb);have n2_:=Aside0.mk (KeepBut.trans qz2 (KeepBut.of_grown hg g) (Kd.R_base2 HO_5.out));have n3_:=Aside0.mk (ho);clear HI0 HB HK HO_5;have HI0:=n0_;have HB:=n1_;have HK:=n2_;have HO184:=n3_;clear n0_ n1_ n2_ n3_ ho hb hg hat))
            go_roundg k1
            case measure=>have:=HK1.out;omega
            case rel=>exact ⟨(y182),H',⟨by have:=HK1.out;omega⟩,⟨by (with_reducible repeat (first|apply Kd.R_alloc|apply Kd.R_drewN|apply Kd.R_drew));exact HO184.out⟩,⟨qz1⟩,⟨qz2⟩,⟨qz3⟩⟩
           ·rw [if_neg c89] at H
            exact absurd H (by simp)
          ·rw [if_neg c88] at H
           have c88b0:decide ((x5_1.length:Int)≤40)=false:=decide_eq_false c88
           have c88b1:decide (x5_1.length≤40)=false:=decide_eq_false (by omega)
           clear c88
           simp only [Option.some.injEq,Prod.mk.injEq] at H
           obtain ⟨rfl,rfl⟩:=H
           obtain ⟨Ao92,co92,eo92⟩:=Kd.R_slice HO_5.out
           subst eo92
           go_wp2
           go_ret
           exact ⟨_,qz8,qz11,qz1,qz3,qz2⟩
       ·rw [if_neg c81] at H
        have c81b0:(t155 == 5)=false:=beq_eq_false_iff_ne.mpr c81
        have c81b1:(t155 != 5)=true:=bne_iff_ne.mpr c81
        obtain ⟨y185,hy185⟩:∃ y_:List Int,y_=(([99999,100000,(-1)]:List Int)):=⟨_,rfl⟩
        replace H:((spec_l20Rd_pick.f k s0_0 t156 3).bind fun bt188=>(if 0≤bt188.1 then (if bt188.1<(y185.length:Int) then (if 0≤t153 then (if t153<(y150.length:Int) then (some ((y150.set (t153:Int).toNat (⟨1,rd y185 bt188.1,(⟨#[]⟩:ByteArray)⟩:S43)),bt188.2)) else (none)) else (none)) else (none)) else (none)))=some (r1,r2):=by first|(rw [hy185];exact H)|exact H
        have Ny185:=Aside0.mk hy185
        clear hy185
        replace H:=Option.bind_eq_some_iff.mp H
        obtain ⟨⟨t188,t189⟩,A930,H⟩:=H
        try dsimp only at H
        have A93:=Aside0.mk A930
        clear A930
        by_cases c94:0≤t188
        ·rw [if_pos c94] at H
         have c94b0:decide (0≤t188)=true:=decide_eq_true c94
         clear c94
         by_cases c95:t188<(y185.length:Int)
         ·rw [if_pos c95] at H
          have c95b0:decide (t188<(y185.length:Int))=true:=decide_eq_true c95
          clear c95
          by_cases c96:0≤t153
          ·rw [if_pos c96] at H
           have c96b0:decide (0≤t153)=true:=decide_eq_true c96
           clear c96
           by_cases c97:t153<(y150.length:Int)
           ·rw [if_pos c97] at H
            have c97b0:decide (t153<(y150.length:Int))=true:=decide_eq_true c97
            clear c97
            obtain ⟨y191,hy191⟩:∃ y_:List (S43),y_=(y150.set (t153:Int).toNat (⟨1,rd y185 t188,(⟨#[]⟩:ByteArray)⟩:S43)):=⟨_,rfl⟩
            replace H:(some (y191,t189))=some (r1,r2):=by first|(rw [hy191];exact H)|exact H
            have Ny191:=Aside0.mk hy191
            clear hy191
            simp only [Option.some.injEq,Prod.mk.injEq] at H
            obtain ⟨rfl,rfl⟩:=H
            go_enter Tryz.func32,Tryz.ntmps32
            go_wp2_with (first|((with_reducible refine gate_dst (N:=7) rfl ?_);refine Kd.R_lit k43 _ 43 ?hg (N:=7) ?hd (xs:=([]:List (S43))) (inner:=[]) (ok:=fun _=>True) (okp:=fun _=>True) ?hr ?hp (fun _ hk=>hk) trivial (Below.refl _ _) (Nat.le_refl _) (by simp) ?_;(case hd=>rfl);(case hg=>rfl);(case hr=>first|(go_simp;done)|(go_simp;rfl));(case hp=>exact (Reps.none _ _));intro v148 w99 ho100 hb hg_ hnew_;clear hg_ hnew_;(first|rw [← Ny147.out] at ho100|(simp only [Int.reduceToNat] at ho100;rw [← Ny147.out] at ho100));have n0_:=Aside0.mk (Kd.R_lower ho100 (keep_size (w:=w) (g:=g) (row:=none) qz2));have n1_:=Aside0.mk (IsS61.below qz1 hb);have n2_:=Aside0.mk (KeepBut.trans qz2 (KeepBut.of_below hb g none) (.inl rfl));have n3_:=Aside0.mk (below_step qz3 hb);clear HI0 HK HB;have HO149:=n0_;have HI0:=n1_;have HK:=n2_;have HB:=n3_;clear n0_ n1_ n2_ n3_ hb ho100)|((with_reducible refine gate_builtin (b:=.append) (xs:=#[.tmp 7,.tmp 8]) rfl ?_);at_builtin;refine Kd.R_append_rows k43 w.heap.size rfl (.tmp 7) (.tmp 8) 23 43 (.agg #[(.int .i64 0),(.int .i64 0),(.string ⟨#[]⟩)]) 32 rfl Tryz.underlying23 info43 rfl (by decide) (by omega) v148 y147 l1 _ _ _ (fun _=>True) (fun _=>False) rfl rfl ?aO ?aR (fun _ _ h=>h) (fun _ h=>h.elim) ?aF (Below.refl _ _) ?aS ?aL ?_;(case aR=>exact Kd.C_foot_now HR1.out qz2);(case aF=>exact (fun _ _=>trivial));(case aO=>exact qz46);(case aS=>exact (keep_size (w:=w) (g:=g) (row:=none) qz2));(case aL=>have:=LMc3.out;omega);intro v151 w101 ho hb hg hat;rw [← Ny150.out] at ho;have n0_:=Aside0.mk (IsS61.grown qz1 hg (IsS61.own_ne HI0.out HO149.out (by decide)));have n1_:=Aside0.mk (below_weaken qz3 HL.out hb);have n2_:=Aside0.mk (KeepBut.trans qz2 (KeepBut.of_grown hg g) (Kd.R_base2 HO149.out));have n3_:=Aside0.mk (ho);clear HI0 HB HK HO149;have HI0:=n0_;have HB:=n1_;have HK:=n2_;have HO152:=n3_;clear n0_ n1_ n2_ n3_ ho hb hg hat;obtain ⟨Ao102,co102,eo102⟩:=Kd.R_slice HO152.out;subst eo102)|((with_reducible refine gate_callee (f:=16) rfl ?_);refine goesL_ (some 13) rfl rfl Tryz.func16 (by kernel_rfl) rfl #[.pointer (some ⟨g,0,none⟩),.int .i64 (y150.length:Int)] rfl qz4 ?_;(with_reducible refine (spec_l20Rd_pick.calls k g s0_0 s0_1 (y150.length:Int) t153 t154 w0 _ ?side1 ?side2 A4.out).mono ?_);(case side1=>exact qz1);(case side2=>exact qz3);rintro e w103 ⟨rfl,hi,hb,hk⟩;refine ⟨_,rfl,?_⟩;have n0_:=Aside0.mk (Kd.R_mono (Kd.R_keep (IsS61.apart (show IsS61 w0 _ g s0_0 s0_1 from qz1) qz12 (by decide)) hk (fun _ h=>h.2)) (fun _ h=>h.1));have n1_:=Aside0.mk (KeepBut.trans qz2 hk (.inl rfl));have n2_:=Aside0.mk (hb);have n3_:=Aside0.mk (hi);clear HO152 HK HB HI0;have HO152:=n0_;have HK:=n1_;have HB:=n2_;have HI0:=n3_;clear n0_ n1_ n2_ n3_;(try clear hb);(try clear hb2);(try clear hk);(try clear hi))|((with_reducible refine gate_callee (f:=16) rfl ?_);refine goesL_ (some 15) rfl rfl Tryz.func16 (by kernel_rfl) rfl #[.pointer (some ⟨g,0,none⟩),.int .i64 7] rfl qz4 ?_;(with_reducible refine (spec_l20Rd_pick.calls k g s0_0 t154 7 t155 t156 w0 _ ?side1 ?side2 A5.out).mono ?_);(case side1=>exact qz1);(case side2=>exact qz3);rintro e w104 ⟨rfl,hi,hb,hk⟩;refine ⟨_,rfl,?_⟩;have n0_:=Aside0.mk (Kd.R_mono (Kd.R_keep (IsS61.apart (show IsS61 w0 _ g s0_0 t154 from qz1) qz12 (by decide)) hk (fun _ h=>h.2)) (fun _ h=>h.1));have n1_:=Aside0.mk (KeepBut.trans qz2 hk (.inl rfl));have n2_:=Aside0.mk (hb);have n3_:=Aside0.mk (hi);clear HO152 HK HB HI0;have HO152:=n0_;have HK:=n1_;have HB:=n2_;have HI0:=n3_;clear n0_ n1_ n2_ n3_;(try clear hb);(try clear hb2);(try clear hk);(try clear hi))|((with_reducible refine gate_dst (N:=18) rfl ?_);refine Kd.R_lit (Kd.int .i64) _ 3 ?hg (N:=18) ?hd (xs:=([99999,100000,(-1)]:List Int)) (inner:=[.int .i64 99999,.int .i64 100000,.int .i64 (-1)]) (ok:=fun _=>True) (okp:=fun _=>True) ?hr ?hp (fun _ hk=>hk) trivial (Below.refl _ _) (Nat.le_refl _) (by simp) ?_;(case hd=>rfl);(case hg=>rfl);(case hr=>first|(go_simp;done)|(go_simp;rfl));(case hp=>exact (Reps.one (show Kd.M (Kd.int .i64) _ _ _ 99999 [.int .i64 99999] from rfl) (Reps.one (show Kd.M (Kd.int .i64) _ _ _ 100000 [.int .i64 100000] from rfl) (Reps.one (show Kd.M (Kd.int .i64) _ _ _ (-1) [.int .i64 (-1)] from rfl) (Reps.none _ _)))));intro v186 w105 ho106 hb hg_ hnew_;clear hg_ hnew_;(first|rw [← Ny185.out] at ho106|(simp only [Int.reduceToNat] at ho106;rw [← Ny185.out] at ho106));have n0_:=Aside0.mk (Kd.R_below qz12 hb);have n1_:=Aside0.mk (Kd.R_lower ho106 (keep_size (w:=w) (g:=g) (row:=none) qz2));have n2_:=Aside0.mk (IsS61.below qz1 hb);have n3_:=Aside0.mk (KeepBut.trans qz2 (KeepBut.of_below hb g none) (.inl rfl));have n4_:=Aside0.mk (below_step qz3 hb);clear HO152 HI0 HK HB;have HO152:=n0_;have HO187:=n1_;have HI0:=n2_;have HK:=n3_;have HB:=n4_;clear n0_ n1_ n2_ n3_ n4_ hb ho106)|((with_reducible refine gate_callee (f:=16) rfl ?_);refine goesL_ (some 20) rfl rfl Tryz.func16 (by kernel_rfl) rfl #[.pointer (some ⟨g,0,none⟩),.int .i64 3] rfl qz4 ?_;(with_reducible refine (spec_l20Rd_pick.calls k g s0_0 t156 3 t188 t189 w0 _ ?side1 ?side2 A93.out).mono ?_);(case side1=>exact qz1);(case side2=>exact qz3);rintro e w107 ⟨rfl,hi,hb,hk⟩;refine ⟨_,rfl,?_⟩;have n0_:=Aside0.mk (Kd.R_mono (Kd.R_keep (IsS61.apart (show IsS61 w0 _ g s0_0 t156 from qz1) qz12 (by decide)) hk (fun _ h=>h.2)) (fun _ h=>h.1));have n1_:=Aside0.mk (Kd.R_mono (Kd.R_keep (IsS61.apart (show IsS61 w0 _ g s0_0 t156 from qz1) (by (with_reducible repeat (first|apply Kd.R_alloc|apply Kd.R_drewN|apply Kd.R_drew));exact HO187.out) (by decide)) hk (fun _ h=>h.2)) (fun _ h=>h.1));have n2_:=Aside0.mk (KeepBut.trans qz2 hk (.inl rfl));have n3_:=Aside0.mk (hb);have n4_:=Aside0.mk (hi);clear HO152 HO187 HK HB HI0;have HO152:=n0_;have HO187:=n1_;have HK:=n2_;have HB:=n3_;have HI0:=n4_;clear n0_ n1_ n2_ n3_ n4_;(try clear hb);(try clear hb2);(try clear hk);(try clear hi);obtain ⟨Ao108,co108,eo108⟩:=Kd.R_slice HO187.out;subst eo108;have p190:0≤(t188:Int):=of_decide_eq_true qz6;have q190:t188<(y185.length:Int):=of_decide_eq_true qz6;obtain ⟨ad190,e190,hx190_0⟩:=Kd.at_int (Kd.R_reads' HO187.out).2.2 t188 p190 q190;cases e190;replace p190:=eq_true p190;replace q190:=eq_true q190;have p98:0≤(t153:Int):=of_decide_eq_true qz6;have q98:(t153:Int)<((y150.length:Int):Int):=of_decide_eq_true qz6;obtain ⟨go98,co98,eo98,gb98,gl98,cl98,HG98⟩:=Kd.R_form HO152.out (by omega);(first|cases eo98|(injection eo98 with ea_ en_ ec_;(first|subst ea_|(injection ea_ with ea_;subst ea_));subst ec_;clear en_));have GB98:=Aside0.mk gb98;have GG98:=Aside0.mk HG98;clear gb98 gl98 HG98;obtain ⟨ce98,hcl98,hM98,hcc98,hfr98⟩:=Kd.R_elem HO152.out z43 (t153:Int) p98 q98;obtain rfl:=k43_openM hM98;have hx98_0:w107.cell? ⟨go98,(t153:Int).toNat * 3,none⟩=some (.int .i64 ((rd_T43 y150 t153).f0)):=hcc98 0 _ rfl;have hx98_1:w107.cell? ⟨go98,(t153:Int).toNat * 3+1,none⟩=some (.int .i64 ((rd_T43 y150 t153).f1)):=hcc98 1 _ rfl;have hx98_2:w107.cell? ⟨go98,(t153:Int).toNat * 3+2,none⟩=some (.string ((rd_T43 y150 t153).f2)):=hcc98 2 _ rfl;have hf98_0:w107.frozen? ⟨go98,(t153:Int).toNat * 3,none⟩=false:=hfr98 0;have hf98_1:w107.frozen? ⟨go98,(t153:Int).toNat * 3+1,none⟩=false:=hfr98 1;have hf98_2:w107.frozen? ⟨go98,(t153:Int).toNat * 3+2,none⟩=false:=hfr98 2;(try clear hcl98);(try clear hcc98);(try clear hfr98);(try clear hM98);replace p98:=eq_true p98;replace q98:=eq_true q98;have HX109:=Aside0.mk (show Kd.R k43 43 w107 w.heap.size (fun _=>True) (.slice (some ⟨go98,0,none⟩) y150.length co102) y150 from qz12);obtain ⟨ce109,hcl109,hM109,hcc109,hfr109⟩:=Kd.R_elem HX109.out z43 (t153:Int) (of_decide_eq_true qz6) (by have h_:(t153:Int)<((y150.length:Int):Int):=of_decide_eq_true qz6;first|exact h_|(have e_:=(Kd.R_reads' HO152.out).1;omega)|simpa using h_);obtain rfl:=k43_openM hM109;have HP109:=Kd.R_seg HX109.out (t153:Int) (of_decide_eq_true qz6) (by have h_:(t153:Int)<((y150.length:Int):Int):=of_decide_eq_true qz6;first|exact h_|(have e_:=(Kd.R_reads' HO152.out).1;omega)|simpa using h_) (seg:=[.int .i64 1,.int .i64 (rd y185 t188),.string (⟨#[]⟩:ByteArray)]) (j:=0) hcl109 hcc109 (show 3≤3 from by decide) (x':=(⟨1,rd y185 t188,(⟨#[]⟩:ByteArray)⟩:S43)) (k43_mkM _ _ _ (⟨1,rd y185 t188,(⟨#[]⟩:ByteArray)⟩:S43) ) (fun _ hk=>hk);have hx109_0:=hcc109 0 _ rfl;(try simp only [show (k43).sz=3 from rfl,Nat.mul_one,Nat.add_zero] at hx109_0);have hf109_0:=hfr109 0;(try simp only [show (k43).sz=3 from rfl,Nat.mul_one,Nat.add_zero] at hf109_0);have hx109_1:=hcc109 1 _ rfl;(try simp only [show (k43).sz=3 from rfl,Nat.mul_one,Nat.add_zero] at hx109_1);have hf109_1:=hfr109 1;(try simp only [show (k43).sz=3 from rfl,Nat.mul_one,Nat.add_zero] at hf109_1);have hx109_2:=hcc109 2 _ rfl;(try simp only [show (k43).sz=3 from rfl,Nat.mul_one,Nat.add_zero] at hx109_2);have hf109_2:=hfr109 2;(try simp only [show (k43).sz=3 from rfl,Nat.mul_one,Nat.add_zero] at hf109_2);clear hcl109 hcc109 hfr109 hM109)|((with_reducible refine gate_store (t:=43) (p:=24) rfl ?_);refine store_event (t:=43) (p:=24) (v:=?vo_w110) (w1:=(((w107.setCell ⟨go98,(t153:Int).toNat * 3,none⟩ (.int .i64 1)).setCell ⟨go98,(t153:Int).toNat * 3+1,none⟩ (.int .i64 (rd y185 t188))).setCell ⟨go98,(t153:Int).toNat * 3+2,none⟩ (.string (⟨#[]⟩:ByteArray)))) ?hg ?ho ?hn ?hr ?_;(case ho=>rfl);(case hg=>rfl);(case hn=>rfl);(case hr=>first|(go_simp;done)|(go_simp;rfl));intro w110 hw;have hg:w107.grownBy w110 (some go98):=(by rw [hw];exact HP109.2);have hp_:Kd.R k43 43 w110 w.heap.size (fun _=>True) (.slice (some ⟨go98,0,none⟩) y150.length co102) y191:=(by rw [hw,Ny191.out];exact HP109.1);clear HP109;have n0_:=Aside0.mk (IsS61.grown qz1 hg (IsS61.own_ne HI0.out HO152.out (by decide)));have n1_:=Aside0.mk (hp_);have n2_:=Aside0.mk (Kd.R_over' (v:=(.slice (some ⟨go98,0,none⟩) y150.length co102)) (by (with_reducible repeat (first|apply Kd.R_alloc|apply Kd.R_drewN|apply Kd.R_drew));exact HO187.out) (Kd.R_typed HO152.out) (by decide) hg);have n3_:=Aside0.mk ((by rw [hw];exact below_set (below_set (below_set (HB.out) (Nat.le_trans HL.out GB98.out)) (Nat.le_trans HL.out GB98.out)) (Nat.le_trans HL.out GB98.out):Below w0.heap.size w0 w110));have n4_:=Aside0.mk (KeepBut.trans qz2 (KeepBut.of_grown hg g) (Kd.R_base2 HO152.out));clear HI0 HO152 HO187 HB HK;have HI0:=n0_;have HO152:=n1_;have HO187:=n2_;have HB:=n3_;have HK:=n4_;clear n0_ n1_ n2_ n3_ n4_ hg hw hp_))
            go_ret
            exact ⟨_,qz8,qz12,qz1,qz3,qz2⟩
           ·rw [if_neg c97] at H
            exact absurd H (by simp)
          ·rw [if_neg c96] at H
           exact absurd H (by simp)
         ·rw [if_neg c95] at H
          exact absurd H (by simp)
        ·rw [if_neg c94] at H
         exact absurd H (by simp)
 ·rw [if_neg c3] at H
  exact absurd H (by simp)

end Go.Proofs.YtibencknfheplaaGreatDoor.P
