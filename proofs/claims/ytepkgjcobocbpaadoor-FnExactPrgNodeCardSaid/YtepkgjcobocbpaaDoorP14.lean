/- Contracts of functions of the program: each as a Lean function, and that its call does what that says; printed by cprint.py (this session) over print.py of the kit. Conditions: the hypotheses of each theorem. -/
import Derived.Test.YtepkgjcobocbpaaDoorVZ
import Derived.Test.YtepkgjcobocbpaaDoorP0
import Derived.Test.YtepkgjcobocbpaaDoorP13
namespace Go.Proofs.YtepkgjcobocbpaaDoor.P
open Go.RowKit Go.Proofs.YtepkgjcobocbpaaDoorW.PrintWords Go.Proofs.YtepkgjcobocbpaaDoorW.PrintLast Go.Proofs.YtepkgjcobocbpaaDoorW.PrintMore
attribute [local go_sem] max2_int min2_int max_two min_two max_three min_three max_four min_four   -- for this text's walks alone
set_option linter.unusedVariables false
set_option linter.unusedSimpArgs false

/-! ### laws_toPrgProg: function 9 -/
def laws_toPrgProg.f (k:Nat) (l0_0:List (S79)) (l0_1:List (S82)):Option ((List (S86)) × (List (S88))):=(laws_toPrgClauseS.f k l0_0).bind fun t244=>((laws_toPrgPlaceS.f k l0_1).bind fun t247=>(some (t244,t247)))
set_option maxHeartbeats 8000000 in
set_option maxRecDepth 100000 in
theorem laws_toPrgProg.calls (k:Nat) (A0_0:Option Addr) (c0_0:Nat) (l0_0:List (S79)) (A0_1:Option Addr) (c0_1:Nat) (l0_1:List (S82)) (r1:List (S86)) (r2:List (S88)) (w:World) (hr0_0:Kd.C k79 w A0_0 l0_0.length l0_0) (hc0_0:l0_0.length≤c0_0) (hr0_1:Kd.C k82 w A0_1 l0_1.length l0_1) (hc0_1:l0_1.length≤c0_1) (h:laws_toPrgProg.f k l0_0 l0_1=some (r1,r2)) :
  Calls Tryd.prog 9 #[.agg #[.slice A0_0 l0_0.length c0_0,.slice A0_1 l0_1.length c0_1]] w fun e w'=>∃ v0_ v1_:Value,e = .returned (.agg #[v0_,v1_])∧Kd.R k86 86 w' w.heap.size (fun _=>True) v0_ r1∧Kd.R k88 88 w' w.heap.size (fun _=>True) v1_ r2∧Below w.heap.size w w':=by
 have hu25:=Tryd.underlying25
 have hu33:=Tryd.underlying33
 have HR0_0:=Aside0.mk hr0_0
 have HC0_0:=Aside0.mk hc0_0
 clear hr0_0 hc0_0
 have HR0_1:=Aside0.mk hr0_1
 have HC0_1:=Aside0.mk hc0_1
 clear hr0_1 hc0_1
 have HB:=Aside0.mk (Below.refl w.heap.size w)
 have H:((laws_toPrgClauseS.f k l0_0).bind fun t244=>((laws_toPrgPlaceS.f k l0_1).bind fun t247=>(some (t244,t247))))=some (r1,r2):=h
 clear h
 replace H:=Option.bind_eq_some_iff.mp H
 obtain ⟨t244,A20,H⟩:=H
 try dsimp only at H
 have A2:=Aside0.mk A20
 clear A20
 replace H:=Option.bind_eq_some_iff.mp H
 obtain ⟨t247,A30,H⟩:=H
 try dsimp only at H
 have A3:=Aside0.mk A30
 clear A30
 simp only [Option.some.injEq,Prod.mk.injEq] at H
 obtain ⟨rfl,rfl⟩:=H
 go_enter Tryd.func9,Tryd.ntmps9
 go_wp2_with (first|((with_reducible refine gate_dst (N:=1) rfl ?_);refine box_event ?hg (N:=1) ?hd (cs:=#[.slice A0_0 l0_0.length c0_0,.slice A0_1 l0_1.length c0_1]) (t:=25) ?hr ?_;(case hd=>rfl);(case hg=>rfl);(case hr=>first|(go_simp;done)|(go_simp;rfl));intro gb241 hg w4 hbox hb;have n0_:=Aside0.mk (below_step qz1 hb);have n1_:=Aside0.mk (hbox);have n2_:=Aside0.mk ((by rw [hg];exact (below_size qz1):w.heap.size≤gb241));have n3_:=Aside0.mk ((by rw [hg];exact (below_size qz1):w.heap.size≤gb241));clear HB;have HB:=n0_;have BK241:=n1_;have GW241:=n2_;have GE241:=n3_;clear n0_ n1_ n2_ n3_ hb hbox hg)|((with_reducible refine gate_dst (N:=2) rfl ?_);refine box_event ?hg (N:=2) ?hd (cs:=#[.slice none 0 0,.slice none 0 0]) (t:=33) ?hr ?_;(case hd=>rfl);(case hg=>rfl);(case hr=>first|(go_simp;done)|(go_simp;rfl));intro gb242 hg w5 hbox hb;have n0_:=Aside0.mk (blk_below (g:=gb241) (o:=.cells #[.slice A0_0 l0_0.length c0_0,.slice A0_1 l0_1.length c0_1] 25 (0,0)) qz84 hb);have n1_:=Aside0.mk (below_step qz128 hb);have n2_:=Aside0.mk (hbox);have n3_:=Aside0.mk ((by rw [hg];exact (below_size qz128):w.heap.size≤gb242));have n4_:=Aside0.mk ((by rw [hg];exact (below_size qz128):w.heap.size≤gb242));have n5_:=Aside0.mk ((by rw [hg];exact Nat.ne_of_lt (blk_lt (g:=gb241) (o:=.cells #[.slice A0_0 l0_0.length c0_0,.slice A0_1 l0_1.length c0_1] 25 (0,0)) qz84):gb241≠gb242));have n6_:=Aside0.mk ((by rw [hg];exact Nat.ne_of_gt (blk_lt (g:=gb241) (o:=.cells #[.slice A0_0 l0_0.length c0_0,.slice A0_1 l0_1.length c0_1] 25 (0,0)) qz84):gb242≠gb241));clear BK241 HB;have BK241:=n0_;have HB:=n1_;have BK242:=n2_;have GW242:=n3_;have GE242:=n4_;have NB241_242:=n5_;have NB242_241:=n6_;clear n0_ n1_ n2_ n3_ n4_ n5_ n6_ hb hbox hg)|((with_reducible refine gate_dst (N:=3) rfl ?_);refine box_event ?hg (N:=3) ?hd (cs:=#[.slice none 0 0,.slice none 0 0]) (t:=33) ?hr ?_;(case hd=>rfl);(case hg=>rfl);(case hr=>first|(go_simp;done)|(go_simp;rfl));intro gb243 hg w6 hbox hb;have n0_:=Aside0.mk (blk_below (g:=gb241) (o:=.cells #[.slice A0_0 l0_0.length c0_0,.slice A0_1 l0_1.length c0_1] 25 (0,0)) qz84 hb);have n1_:=Aside0.mk (blk_below (g:=gb242) (o:=.cells #[.slice none 0 0,.slice none 0 0] 33 (0,0)) qz122 hb);have n2_:=Aside0.mk (below_step qz111 hb);have n3_:=Aside0.mk (hbox);have n4_:=Aside0.mk ((by rw [hg];exact (below_size qz111):w.heap.size≤gb243));have n5_:=Aside0.mk ((by rw [hg];exact (below_size qz111):w.heap.size≤gb243));have n6_:=Aside0.mk ((by rw [hg];exact Nat.ne_of_lt (blk_lt (g:=gb241) (o:=.cells #[.slice A0_0 l0_0.length c0_0,.slice A0_1 l0_1.length c0_1] 25 (0,0)) qz84):gb241≠gb243));have n7_:=Aside0.mk ((by rw [hg];exact Nat.ne_of_gt (blk_lt (g:=gb241) (o:=.cells #[.slice A0_0 l0_0.length c0_0,.slice A0_1 l0_1.length c0_1] 25 (0,0)) qz84):gb243≠gb241));have n8_:=Aside0.mk ((by rw [hg];exact Nat.ne_of_lt (blk_lt (g:=gb242) (o:=.cells #[.slice none 0 0,.slice none 0 0] 33 (0,0)) qz122):gb242≠gb243));have n9_:=Aside0.mk ((by rw [hg];exact Nat.ne_of_gt (blk_lt (g:=gb242) (o:=.cells #[.slice none 0 0,.slice none 0 0] 33 (0,0)) qz122):gb243≠gb242));clear BK241 BK242 HB;have BK241:=n0_;have BK242:=n1_;have HB:=n2_;have BK243:=n3_;have GW243:=n4_;have GE243:=n5_;have NB241_243:=n6_;have NB243_241:=n7_;have NB242_243:=n8_;have NB243_242:=n9_;clear n0_ n1_ n2_ n3_ n4_ n5_ n6_ n7_ n8_ n9_ hb hbox hg;have hnb7:=NB241_242.out;have hnc7:=NB242_241.out;have hnb8:=NB241_243.out;have hnc8:=NB243_241.out;have hcz9_0:w6.cell? ⟨gb241,0,none⟩=some (.slice A0_0 l0_0.length c0_0):=(blk_cell BK241.out 0).trans rfl;have hcz9_1:w6.cell? ⟨gb241,1,none⟩=some (.slice A0_1 l0_1.length c0_1):=(blk_cell BK241.out 1).trans rfl;have hfz9_0:=blk_frozen BK241.out 0;have hfz9_1:=blk_frozen BK241.out 1)|((with_reducible refine gate_callee (f:=33) rfl ?_);refine goesL_ (some 6) rfl rfl Tryd.func33 (by kernel_rfl) rfl #[.slice A0_0 l0_0.length c0_0] rfl qz2 ?_;(with_reducible refine (laws_toPrgClauseS.calls k _ _ l0_0 t244 _ ?side1 ?side2 A2.out).mono ?_);(case side1=>exact qz8);(case side2=>exact HC0_0.out);rintro e w10 ⟨v245,rfl,ho0,hb⟩;refine ⟨_,rfl,?_⟩;have n0_:=Aside0.mk (Kd.R_lower ho0 (below_size qz67));have n1_:=Aside0.mk (blk_below (g:=gb241) (o:=.cells #[.slice A0_0 l0_0.length c0_0,.slice A0_1 l0_1.length c0_1] 25 (0,0)) qz84 hb);have n2_:=Aside0.mk (blk_below (g:=gb242) (o:=.cells #[.slice none 0 0,.slice none 0 0] 33 (0,0)) qz122 hb);have n3_:=Aside0.mk (blk_below (g:=gb243) (o:=.cells #[.slice none 0 0,.slice none 0 0] 33 (0,0)) (by (with_reducible repeat (first|refine blk_drewN ?_ _|refine blk_drew ?_|refine blk_alloc ?_ _));exact BK243.out) hb);have n4_:=Aside0.mk (below_step qz67 hb);clear BK241 BK242 BK243 HB;have HO246:=n0_;have BK241:=n1_;have BK242:=n2_;have BK243:=n3_;have HB:=n4_;clear n0_ n1_ n2_ n3_ n4_;(try clear hb);(try clear hb2);(try clear hk);(try clear hi);(try clear ho0);obtain ⟨Ao11,co11,eo11⟩:=Kd.R_slice HO246.out;subst eo11;have hnb12:=NB243_242.out;have hnc12:=NB242_243.out;have hcz13_0:w10.cell? ⟨gb243,0,none⟩=some (.slice none 0 0):=(blk_cell BK243.out 0).trans rfl;have hcz13_1:w10.cell? ⟨gb243,1,none⟩=some (.slice none 0 0):=(blk_cell BK243.out 1).trans rfl;have hfz13_0:=blk_frozen BK243.out 0;have hfz13_1:=blk_frozen BK243.out 1;have hcz14_0:w10.cell? ⟨gb241,0,none⟩=some (.slice A0_0 l0_0.length c0_0):=(blk_cell BK241.out 0).trans rfl;have hcz14_1:w10.cell? ⟨gb241,1,none⟩=some (.slice A0_1 l0_1.length c0_1):=(blk_cell BK241.out 1).trans rfl;have hfz14_0:=blk_frozen BK241.out 0;have hfz14_1:=blk_frozen BK241.out 1)|((with_reducible refine gate_callee (f:=34) rfl ?_);refine goesL_ (some 10) rfl rfl Tryd.func34 (by kernel_rfl) rfl #[.slice A0_1 l0_1.length c0_1] rfl qz2 ?_;(with_reducible refine (laws_toPrgPlaceS.calls k _ _ l0_1 t247 _ ?side1 ?side2 A3.out).mono ?_);(case side1=>exact Kd.C_below HR0_1.out qz67);(case side2=>exact HC0_1.out);rintro e w15 ⟨v248,rfl,ho0,hb⟩;refine ⟨_,rfl,?_⟩;have n0_:=Aside0.mk (Kd.R_below (by (with_reducible repeat (first|apply Kd.R_alloc|apply Kd.R_drewN|apply Kd.R_drew));exact (Kd.R_mono (Kd.R_far (p:=⟨gb243,0,none⟩) (Kd.R_types HO246.out BK243.out (by decide)) (fun _ hk=>hk.2) (.slice Ao11 t244.length co11)) (fun _ h_=>h_.1))) hb);have n1_:=Aside0.mk (Kd.R_lower ho0 (below_size qz67));have n2_:=Aside0.mk (blk_below (g:=gb241) (o:=.cells #[.slice A0_0 l0_0.length c0_0,.slice A0_1 l0_1.length c0_1] 25 (0,0)) (by (with_reducible repeat (first|refine blk_drewN ?_ _|refine blk_drew ?_|refine blk_alloc ?_ _));refine blk_far ?_ NB241_243.out _;(with_reducible repeat (first|refine blk_drewN ?_ _|refine blk_drew ?_|refine blk_alloc ?_ _));exact BK241.out) hb);have n3_:=Aside0.mk (blk_below (g:=gb242) (o:=.cells #[.slice none 0 0,.slice none 0 0] 33 (0,0)) (by (with_reducible repeat (first|refine blk_drewN ?_ _|refine blk_drew ?_|refine blk_alloc ?_ _));refine blk_far ?_ NB242_243.out _;(with_reducible repeat (first|refine blk_drewN ?_ _|refine blk_drew ?_|refine blk_alloc ?_ _));exact BK242.out) hb);have n4_:=Aside0.mk (blk_below (g:=gb243) (o:=.cells #[.slice Ao11 t244.length co11,.slice none 0 0] 33 (0,0)) (by (with_reducible repeat (first|refine blk_drewN ?_ _|refine blk_drew ?_|refine blk_alloc ?_ _));refine blk_put (cs:=#[.slice none 0 0,.slice none 0 0]) ?_ 0 _ rfl;(with_reducible repeat (first|refine blk_drewN ?_ _|refine blk_drew ?_|refine blk_alloc ?_ _));exact BK243.out) hb);have n5_:=Aside0.mk (below_step qz67 hb);clear HO246 BK241 BK242 BK243 HB;have HO246:=n0_;have HO249:=n1_;have BK241:=n2_;have BK242:=n3_;have BK243:=n4_;have HB:=n5_;clear n0_ n1_ n2_ n3_ n4_ n5_;(try clear hb);(try clear hb2);(try clear hk);(try clear hi);(try clear ho0);obtain ⟨Ao16,co16,eo16⟩:=Kd.R_slice HO249.out;subst eo16;have hcz17_0:w15.cell? ⟨gb243,0,none⟩=some (.slice Ao11 t244.length co11):=(blk_cell BK243.out 0).trans rfl;have hcz17_1:w15.cell? ⟨gb243,1,none⟩=some (.slice none 0 0):=(blk_cell BK243.out 1).trans rfl;have hfz17_0:=blk_frozen BK243.out 0;have hfz17_1:=blk_frozen BK243.out 1;have hcz18_0:w15.cell? ⟨gb242,0,none⟩=some (.slice none 0 0):=(blk_cell BK242.out 0).trans rfl;have hcz18_1:w15.cell? ⟨gb242,1,none⟩=some (.slice none 0 0):=(blk_cell BK242.out 1).trans rfl;have hfz18_0:=blk_frozen BK242.out 0;have hfz18_1:=blk_frozen BK242.out 1))
 refine bodyPost_ret (results_cell_row rfl _ _ gb242 33 #[.slice Ao11 t244.length co11,.slice Ao16 t247.length co16] (0,0) _ rfl (by (with_reducible repeat (first|refine blk_drewN ?_ _|refine blk_drew ?_|refine blk_alloc ?_ _));refine blk_put (cs:=#[.slice Ao11 t244.length co11,.slice none 0 0]) ?_ 1 _ rfl;(with_reducible repeat (first|refine blk_drewN ?_ _|refine blk_drew ?_|refine blk_alloc ?_ _));refine blk_put (cs:=#[.slice none 0 0,.slice none 0 0]) ?_ 0 _ rfl;(with_reducible repeat (first|refine blk_drewN ?_ _|refine blk_drew ?_|refine blk_alloc ?_ _));refine blk_far ?_ NB242_243.out _;(with_reducible repeat (first|refine blk_drewN ?_ _|refine blk_drew ?_|refine blk_alloc ?_ _));exact BK242.out) Tryd.underlying33 rfl (by kernel_rfl)) rfl ?_
 exact ⟨_,_,qz3,by (with_reducible repeat (first|apply Kd.R_alloc|apply Kd.R_drewN|apply Kd.R_drew));exact Kd.R_mono (Kd.R_far (p:=⟨gb242,1,none⟩) (Kd.R_far (p:=⟨gb242,0,none⟩) (Kd.R_far (p:=⟨gb243,1,none⟩) (Kd.R_types (Kd.R_types HO246.out BK243.out (by decide)) BK242.out (by decide)) (fun _ hk=>hk.1.2) (.slice Ao16 t247.length co16)) (fun _ hk=>hk.2) (.slice Ao11 t244.length co11)) (fun _ hk=>hk.2) (.slice Ao16 t247.length co16)) (fun _ hk=>trivial),by (with_reducible repeat (first|apply Kd.R_alloc|apply Kd.R_drewN|apply Kd.R_drew));exact Kd.R_mono (Kd.R_far (p:=⟨gb242,1,none⟩) (Kd.R_far (p:=⟨gb242,0,none⟩) (Kd.R_far (p:=⟨gb243,1,none⟩) (Kd.R_types (Kd.R_types HO249.out BK243.out (by decide)) BK242.out (by decide)) (fun _ hk=>hk.1.2) (.slice Ao16 t247.length co16)) (fun _ hk=>hk.2) (.slice Ao11 t244.length co11)) (fun _ hk=>hk.2) (.slice Ao16 t247.length co16)) (fun _ hk=>trivial),qz67⟩

/-! ### laws_eqTrmCell: function 41 -/
def laws_eqTrmCell.f (a0_0:Int) (a0_1:Int) (a0_2:ByteArray) (a1_0:Int) (a1_1:Int) (a1_2:ByteArray):Option (Bool):=if a0_0=a1_0 then (if a0_1=a1_1 then (if a0_2.toList=a1_2.toList then (some true) else (some false)) else (some false)) else (some false)
set_option maxHeartbeats 8000000 in
set_option maxRecDepth 100000 in
theorem laws_eqTrmCell.calls (a0_0:Int) (a0_1:Int) (a0_2:ByteArray) (a1_0:Int) (a1_1:Int) (a1_2:ByteArray) (r:Bool) (w:World) (h:laws_eqTrmCell.f a0_0 a0_1 a0_2 a1_0 a1_1 a1_2=some r) :
  Calls Tryd.prog 41 #[.agg #[.int .i64 a0_0,.int .i64 a0_1,.string a0_2],.agg #[.int .i64 a1_0,.int .i64 a1_1,.string a1_2]] w fun e w'=>e = .returned (.bool r)∧Below w.heap.size w w':=by
 have hu47:=Tryd.underlying47
 have HB:=Aside0.mk (Below.refl w.heap.size w)
 have H:(if a0_0=a1_0 then (if a0_1=a1_1 then (if a0_2.toList=a1_2.toList then (some true) else (some false)) else (some false)) else (some false))=some r:=h
 clear h
 by_cases c3:a0_0=a1_0
 ·rw [if_pos c3] at H
  have c3b0:(a0_0 == a1_0)=true:=beq_iff_eq.mpr c3
  have c3b1:(a0_0 != a1_0)=false:=bne_eq_false_iff_eq.mpr c3
  clear c3
  by_cases c4:a0_1=a1_1
  ·rw [if_pos c4] at H
   have c4b0:(a0_1 == a1_1)=true:=beq_iff_eq.mpr c4
   have c4b1:(a0_1 != a1_1)=false:=bne_eq_false_iff_eq.mpr c4
   clear c4
   by_cases c5:a0_2.toList=a1_2.toList
   ·rw [if_pos c5] at H
    have c5b0:(a0_2.toList == a1_2.toList)=true:=beq_iff_eq.mpr c5
    have c5b1:(a0_2.toList != a1_2.toList)=false:=bne_eq_false_iff_eq.mpr c5
    clear c5
    obtain rfl:=Option.some.inj H
    go_enter Tryd.func41,Tryd.ntmps41
    go_wp2_with (first|((with_reducible refine gate_dst (N:=2) rfl ?_);refine box_event ?hg (N:=2) ?hd (cs:=#[.int .i64 a0_0,.int .i64 a0_1,.string a0_2]) (t:=47) ?hr ?_;(case hd=>rfl);(case hg=>rfl);(case hr=>first|(go_simp;done)|(go_simp;rfl));intro gb301 hg w6 hbox hb;have n0_:=Aside0.mk (below_step qz1 hb);have n1_:=Aside0.mk (hbox);have n2_:=Aside0.mk ((by rw [hg];exact (below_size qz1):w.heap.size≤gb301));have n3_:=Aside0.mk ((by rw [hg];exact (below_size qz1):w.heap.size≤gb301));clear HB;have HB:=n0_;have BK301:=n1_;have GW301:=n2_;have GE301:=n3_;clear n0_ n1_ n2_ n3_ hb hbox hg)|((with_reducible refine gate_dst (N:=3) rfl ?_);refine box_event ?hg (N:=3) ?hd (cs:=#[.int .i64 a1_0,.int .i64 a1_1,.string a1_2]) (t:=47) ?hr ?_;(case hd=>rfl);(case hg=>rfl);(case hr=>first|(go_simp;done)|(go_simp;rfl));intro gb302 hg w7 hbox hb;have n0_:=Aside0.mk (blk_below (g:=gb301) (o:=.cells #[.int .i64 a0_0,.int .i64 a0_1,.string a0_2] 47 (0,0)) qz60 hb);have n1_:=Aside0.mk (below_step qz43 hb);have n2_:=Aside0.mk (hbox);have n3_:=Aside0.mk ((by rw [hg];exact (below_size qz43):w.heap.size≤gb302));have n4_:=Aside0.mk ((by rw [hg];exact (below_size qz43):w.heap.size≤gb302));have n5_:=Aside0.mk ((by rw [hg];exact Nat.ne_of_lt (blk_lt (g:=gb301) (o:=.cells #[.int .i64 a0_0,.int .i64 a0_1,.string a0_2] 47 (0,0)) qz60):gb301≠gb302));have n6_:=Aside0.mk ((by rw [hg];exact Nat.ne_of_gt (blk_lt (g:=gb301) (o:=.cells #[.int .i64 a0_0,.int .i64 a0_1,.string a0_2] 47 (0,0)) qz60):gb302≠gb301));clear BK301 HB;have BK301:=n0_;have HB:=n1_;have BK302:=n2_;have GW302:=n3_;have GE302:=n4_;have NB301_302:=n5_;have NB302_301:=n6_;clear n0_ n1_ n2_ n3_ n4_ n5_ n6_ hb hbox hg;have hnb8:=NB301_302.out;have hnc8:=NB302_301.out;have hcz9_0:w7.cell? ⟨gb301,0,none⟩=some (.int .i64 a0_0):=(blk_cell BK301.out 0).trans rfl;have hcz9_1:w7.cell? ⟨gb301,1,none⟩=some (.int .i64 a0_1):=(blk_cell BK301.out 1).trans rfl;have hcz9_2:w7.cell? ⟨gb301,2,none⟩=some (.string a0_2):=(blk_cell BK301.out 2).trans rfl;have hfz9_0:=blk_frozen BK301.out 0;have hfz9_1:=blk_frozen BK301.out 1;have hfz9_2:=blk_frozen BK301.out 2;have hcz10_0:w7.cell? ⟨gb302,0,none⟩=some (.int .i64 a1_0):=(blk_cell BK302.out 0).trans rfl;have hcz10_1:w7.cell? ⟨gb302,1,none⟩=some (.int .i64 a1_1):=(blk_cell BK302.out 1).trans rfl;have hcz10_2:w7.cell? ⟨gb302,2,none⟩=some (.string a1_2):=(blk_cell BK302.out 2).trans rfl;have hfz10_0:=blk_frozen BK302.out 0;have hfz10_1:=blk_frozen BK302.out 1;have hfz10_2:=blk_frozen BK302.out 2))
    go_ret
    exact ⟨qz3,qz91⟩
   ·rw [if_neg c5] at H
    have c5b0:(a0_2.toList == a1_2.toList)=false:=beq_eq_false_iff_ne.mpr c5
    have c5b1:(a0_2.toList != a1_2.toList)=true:=bne_iff_ne.mpr c5
    obtain rfl:=Option.some.inj H
    go_enter Tryd.func41,Tryd.ntmps41
    go_wp2_with (first|((with_reducible refine gate_dst (N:=2) rfl ?_);refine box_event ?hg (N:=2) ?hd (cs:=#[.int .i64 a0_0,.int .i64 a0_1,.string a0_2]) (t:=47) ?hr ?_;(case hd=>rfl);(case hg=>rfl);(case hr=>first|(go_simp;done)|(go_simp;rfl));intro gb301 hg w11 hbox hb;have n0_:=Aside0.mk (below_step qz1 hb);have n1_:=Aside0.mk (hbox);have n2_:=Aside0.mk ((by rw [hg];exact (below_size qz1):w.heap.size≤gb301));have n3_:=Aside0.mk ((by rw [hg];exact (below_size qz1):w.heap.size≤gb301));clear HB;have HB:=n0_;have BK301:=n1_;have GW301:=n2_;have GE301:=n3_;clear n0_ n1_ n2_ n3_ hb hbox hg)|((with_reducible refine gate_dst (N:=3) rfl ?_);refine box_event ?hg (N:=3) ?hd (cs:=#[.int .i64 a1_0,.int .i64 a1_1,.string a1_2]) (t:=47) ?hr ?_;(case hd=>rfl);(case hg=>rfl);(case hr=>first|(go_simp;done)|(go_simp;rfl));intro gb302 hg w12 hbox hb;have n0_:=Aside0.mk (blk_below (g:=gb301) (o:=.cells #[.int .i64 a0_0,.int .i64 a0_1,.string a0_2] 47 (0,0)) qz60 hb);have n1_:=Aside0.mk (below_step qz43 hb);have n2_:=Aside0.mk (hbox);have n3_:=Aside0.mk ((by rw [hg];exact (below_size qz43):w.heap.size≤gb302));have n4_:=Aside0.mk ((by rw [hg];exact (below_size qz43):w.heap.size≤gb302));have n5_:=Aside0.mk ((by rw [hg];exact Nat.ne_of_lt (blk_lt (g:=gb301) (o:=.cells #[.int .i64 a0_0,.int .i64 a0_1,.string a0_2] 47 (0,0)) qz60):gb301≠gb302));have n6_:=Aside0.mk ((by rw [hg];exact Nat.ne_of_gt (blk_lt (g:=gb301) (o:=.cells #[.int .i64 a0_0,.int .i64 a0_1,.string a0_2] 47 (0,0)) qz60):gb302≠gb301));clear BK301 HB;have BK301:=n0_;have HB:=n1_;have BK302:=n2_;have GW302:=n3_;have GE302:=n4_;have NB301_302:=n5_;have NB302_301:=n6_;clear n0_ n1_ n2_ n3_ n4_ n5_ n6_ hb hbox hg;have hnb13:=NB301_302.out;have hnc13:=NB302_301.out;have hcz14_0:w12.cell? ⟨gb301,0,none⟩=some (.int .i64 a0_0):=(blk_cell BK301.out 0).trans rfl;have hcz14_1:w12.cell? ⟨gb301,1,none⟩=some (.int .i64 a0_1):=(blk_cell BK301.out 1).trans rfl;have hcz14_2:w12.cell? ⟨gb301,2,none⟩=some (.string a0_2):=(blk_cell BK301.out 2).trans rfl;have hfz14_0:=blk_frozen BK301.out 0;have hfz14_1:=blk_frozen BK301.out 1;have hfz14_2:=blk_frozen BK301.out 2;have hcz15_0:w12.cell? ⟨gb302,0,none⟩=some (.int .i64 a1_0):=(blk_cell BK302.out 0).trans rfl;have hcz15_1:w12.cell? ⟨gb302,1,none⟩=some (.int .i64 a1_1):=(blk_cell BK302.out 1).trans rfl;have hcz15_2:w12.cell? ⟨gb302,2,none⟩=some (.string a1_2):=(blk_cell BK302.out 2).trans rfl;have hfz15_0:=blk_frozen BK302.out 0;have hfz15_1:=blk_frozen BK302.out 1;have hfz15_2:=blk_frozen BK302.out 2))
    go_ret
    exact ⟨qz3,qz91⟩
  ·rw [if_neg c4] at H
   have c4b0:(a0_1 == a1_1)=false:=beq_eq_false_iff_ne.mpr c4
   have c4b1:(a0_1 != a1_1)=true:=bne_iff_ne.mpr c4
   obtain rfl:=Option.some.inj H
   go_enter Tryd.func41,Tryd.ntmps41
   go_wp2_with (first|((with_reducible refine gate_dst (N:=2) rfl ?_);refine box_event ?hg (N:=2) ?hd (cs:=#[.int .i64 a0_0,.int .i64 a0_1,.string a0_2]) (t:=47) ?hr ?_;(case hd=>rfl);(case hg=>rfl);(case hr=>first|(go_simp;done)|(go_simp;rfl));intro gb301 hg w16 hbox hb;have n0_:=Aside0.mk (below_step qz1 hb);have n1_:=Aside0.mk (hbox);have n2_:=Aside0.mk ((by rw [hg];exact (below_size qz1):w.heap.size≤gb301));have n3_:=Aside0.mk ((by rw [hg];exact (below_size qz1):w.heap.size≤gb301));clear HB;have HB:=n0_;have BK301:=n1_;have GW301:=n2_;have GE301:=n3_;clear n0_ n1_ n2_ n3_ hb hbox hg)|((with_reducible refine gate_dst (N:=3) rfl ?_);refine box_event ?hg (N:=3) ?hd (cs:=#[.int .i64 a1_0,.int .i64 a1_1,.string a1_2]) (t:=47) ?hr ?_;(case hd=>rfl);(case hg=>rfl);(case hr=>first|(go_simp;done)|(go_simp;rfl));intro gb302 hg w17 hbox hb;have n0_:=Aside0.mk (blk_below (g:=gb301) (o:=.cells #[.int .i64 a0_0,.int .i64 a0_1,.string a0_2] 47 (0,0)) qz60 hb);have n1_:=Aside0.mk (below_step qz43 hb);have n2_:=Aside0.mk (hbox);have n3_:=Aside0.mk ((by rw [hg];exact (below_size qz43):w.heap.size≤gb302));have n4_:=Aside0.mk ((by rw [hg];exact (below_size qz43):w.heap.size≤gb302));have n5_:=Aside0.mk ((by rw [hg];exact Nat.ne_of_lt (blk_lt (g:=gb301) (o:=.cells #[.int .i64 a0_0,.int .i64 a0_1,.string a0_2] 47 (0,0)) qz60):gb301≠gb302));have n6_:=Aside0.mk ((by rw [hg];exact Nat.ne_of_gt (blk_lt (g:=gb301) (o:=.cells #[.int .i64 a0_0,.int .i64 a0_1,.string a0_2] 47 (0,0)) qz60):gb302≠gb301));clear BK301 HB;have BK301:=n0_;have HB:=n1_;have BK302:=n2_;have GW302:=n3_;have GE302:=n4_;have NB301_302:=n5_;have NB302_301:=n6_;clear n0_ n1_ n2_ n3_ n4_ n5_ n6_ hb hbox hg;have hnb18:=NB301_302.out;have hnc18:=NB302_301.out;have hcz19_0:w17.cell? ⟨gb301,0,none⟩=some (.int .i64 a0_0):=(blk_cell BK301.out 0).trans rfl;have hcz19_1:w17.cell? ⟨gb301,1,none⟩=some (.int .i64 a0_1):=(blk_cell BK301.out 1).trans rfl;have hcz19_2:w17.cell? ⟨gb301,2,none⟩=some (.string a0_2):=(blk_cell BK301.out 2).trans rfl;have hfz19_0:=blk_frozen BK301.out 0;have hfz19_1:=blk_frozen BK301.out 1;have hfz19_2:=blk_frozen BK301.out 2;have hcz20_0:w17.cell? ⟨gb302,0,none⟩=some (.int .i64 a1_0):=(blk_cell BK302.out 0).trans rfl;have hcz20_1:w17.cell? ⟨gb302,1,none⟩=some (.int .i64 a1_1):=(blk_cell BK302.out 1).trans rfl;have hcz20_2:w17.cell? ⟨gb302,2,none⟩=some (.string a1_2):=(blk_cell BK302.out 2).trans rfl;have hfz20_0:=blk_frozen BK302.out 0;have hfz20_1:=blk_frozen BK302.out 1;have hfz20_2:=blk_frozen BK302.out 2))
   go_ret
   exact ⟨qz3,qz91⟩
 ·rw [if_neg c3] at H
  have c3b0:(a0_0 == a1_0)=false:=beq_eq_false_iff_ne.mpr c3
  have c3b1:(a0_0 != a1_0)=true:=bne_iff_ne.mpr c3
  obtain rfl:=Option.some.inj H
  go_enter Tryd.func41,Tryd.ntmps41
  go_wp2_with (first|((with_reducible refine gate_dst (N:=2) rfl ?_);refine box_event ?hg (N:=2) ?hd (cs:=#[.int .i64 a0_0,.int .i64 a0_1,.string a0_2]) (t:=47) ?hr ?_;(case hd=>rfl);(case hg=>rfl);(case hr=>first|(go_simp;done)|(go_simp;rfl));intro gb301 hg w21 hbox hb;have n0_:=Aside0.mk (below_step qz1 hb);have n1_:=Aside0.mk (hbox);have n2_:=Aside0.mk ((by rw [hg];exact (below_size qz1):w.heap.size≤gb301));have n3_:=Aside0.mk ((by rw [hg];exact (below_size qz1):w.heap.size≤gb301));clear HB;have HB:=n0_;have BK301:=n1_;have GW301:=n2_;have GE301:=n3_;clear n0_ n1_ n2_ n3_ hb hbox hg)|((with_reducible refine gate_dst (N:=3) rfl ?_);refine box_event ?hg (N:=3) ?hd (cs:=#[.int .i64 a1_0,.int .i64 a1_1,.string a1_2]) (t:=47) ?hr ?_;(case hd=>rfl);(case hg=>rfl);(case hr=>first|(go_simp;done)|(go_simp;rfl));intro gb302 hg w22 hbox hb;have n0_:=Aside0.mk (blk_below (g:=gb301) (o:=.cells #[.int .i64 a0_0,.int .i64 a0_1,.string a0_2] 47 (0,0)) qz60 hb);have n1_:=Aside0.mk (below_step qz43 hb);have n2_:=Aside0.mk (hbox);have n3_:=Aside0.mk ((by rw [hg];exact (below_size qz43):w.heap.size≤gb302));have n4_:=Aside0.mk ((by rw [hg];exact (below_size qz43):w.heap.size≤gb302));have n5_:=Aside0.mk ((by rw [hg];exact Nat.ne_of_lt (blk_lt (g:=gb301) (o:=.cells #[.int .i64 a0_0,.int .i64 a0_1,.string a0_2] 47 (0,0)) qz60):gb301≠gb302));have n6_:=Aside0.mk ((by rw [hg];exact Nat.ne_of_gt (blk_lt (g:=gb301) (o:=.cells #[.int .i64 a0_0,.int .i64 a0_1,.string a0_2] 47 (0,0)) qz60):gb302≠gb301));clear BK301 HB;have BK301:=n0_;have HB:=n1_;have BK302:=n2_;have GW302:=n3_;have GE302:=n4_;have NB301_302:=n5_;have NB302_301:=n6_;clear n0_ n1_ n2_ n3_ n4_ n5_ n6_ hb hbox hg;have hnb23:=NB301_302.out;have hnc23:=NB302_301.out;have hcz24_0:w22.cell? ⟨gb301,0,none⟩=some (.int .i64 a0_0):=(blk_cell BK301.out 0).trans rfl;have hcz24_1:w22.cell? ⟨gb301,1,none⟩=some (.int .i64 a0_1):=(blk_cell BK301.out 1).trans rfl;have hcz24_2:w22.cell? ⟨gb301,2,none⟩=some (.string a0_2):=(blk_cell BK301.out 2).trans rfl;have hfz24_0:=blk_frozen BK301.out 0;have hfz24_1:=blk_frozen BK301.out 1;have hfz24_2:=blk_frozen BK301.out 2;have hcz25_0:w22.cell? ⟨gb302,0,none⟩=some (.int .i64 a1_0):=(blk_cell BK302.out 0).trans rfl;have hcz25_1:w22.cell? ⟨gb302,1,none⟩=some (.int .i64 a1_1):=(blk_cell BK302.out 1).trans rfl;have hcz25_2:w22.cell? ⟨gb302,2,none⟩=some (.string a1_2):=(blk_cell BK302.out 2).trans rfl;have hfz25_0:=blk_frozen BK302.out 0;have hfz25_1:=blk_frozen BK302.out 1;have hfz25_2:=blk_frozen BK302.out 2))
  go_ret
  exact ⟨qz3,qz91⟩

/-! ### laws_eqTrmCellS: function 13 -/
def laws_eqTrmCellS.l0:Nat→List (S47)→List (S47)→Int→Option (Bool)
 | 0,_,_,_=>none
 | k+1,x0,x1,x5=>if x5<(x0.length:Int) then (if 0≤x5 then (if x5<(x1.length:Int) then ((laws_eqTrmCell.f ((rd_T47 x0 x5).f0) ((rd_T47 x0 x5).f1) ((rd_T47 x0 x5).f2) ((rd_T47 x1 x5).f0) ((rd_T47 x1 x5).f1) ((rd_T47 x1 x5).f2)).bind fun t305=>(if t305=true then (laws_eqTrmCellS.l0 k x0 x1 (wrap64 (x5+1))) else (some false))) else (none)) else (none)) else (some true)
def laws_eqTrmCellS.f (k:Nat) (l0:List (S47)) (l1:List (S47)):Option (Bool):=if (l0.length:Int)=(l1.length:Int) then (laws_eqTrmCellS.l0 k l0 l1 0) else (some false)
def laws_eqTrmCellS.T6:Bool × List (List Nat × List Nat):=(true,[([],[]),([],[]),([0,1],[0,1]),([2],[2]),([],[]),([],[]),([4,5],[4,5]),([6],[6]),([3,7],[3,7]),([8],[8])])
def laws_eqTrmCellS.B6:List Nat:=[0,0,3,7,0,0,48,112,255,511]
theorem laws_eqTrmCellS.tab6:rtab .any (opsOf Tryd.f13 6)=laws_eqTrmCellS.T6:=by kernel_rfl
theorem laws_eqTrmCellS.bits6:waitsOk laws_eqTrmCellS.T6.2 laws_eqTrmCellS.B6=true:=by kernel_rfl
set_option maxHeartbeats 8000000 in
set_option maxRecDepth 100000 in
theorem laws_eqTrmCellS.calls (k:Nat) (A0:Option Addr) (c0:Nat) (l0:List (S47)) (A1:Option Addr) (c1:Nat) (l1:List (S47)) (r:Bool) (w:World) (hr0:Kd.C k47 w A0 l0.length l0) (hc0:l0.length≤c0) (hr1:Kd.C k47 w A1 l1.length l1) (hc1:l1.length≤c1) (h:laws_eqTrmCellS.f k l0 l1=some r) :
  Calls Tryd.prog 13 #[.slice A0 l0.length c0,.slice A1 l1.length c1] w fun e w'=>e = .returned (.bool r)∧Below w.heap.size w w':=by
 have hu47:=Tryd.underlying47
 have HR0:=Aside0.mk hr0
 have HC0:=Aside0.mk hc0
 clear hr0 hc0
 have HR1:=Aside0.mk hr1
 have HC1:=Aside0.mk hc1
 clear hr1 hc1
 have HB:=Aside0.mk (Below.refl w.heap.size w)
 have H:(if (l0.length:Int)=(l1.length:Int) then (laws_eqTrmCellS.l0 k l0 l1 0) else (some false))=some r:=h
 clear h
 by_cases c3:(l0.length:Int)=(l1.length:Int)
 ·rw [if_pos c3] at H
  have c3b0:((l0.length:Int) == (l1.length:Int))=true:=beq_iff_eq.mpr c3
  have c3b1:((l0.length:Int) != (l1.length:Int))=false:=bne_eq_false_iff_eq.mpr c3
  have c3b2:(l0.length == l1.length)=true:=qz134
  clear c3
  have H':=Aside0.mk H
  clear H
  go_enter Tryd.func13,Tryd.ntmps13
  go_wp2
  go_loopg [5] k (fun kq v5 w'=>∃ (x5_1:Int),v5 = .int .i64 x5_1∧Aside0 (laws_eqTrmCellS.l0 kq l0 l1 x5_1=some r)∧Aside0 (kq≤k)∧Aside0 (Below w.heap.size w w'))
  case atStart=>exact ⟨(0),qz12,H',⟨Nat.le_refl _⟩,⟨qz4⟩⟩
  case round=>
   clear H'
   try clear c1
   try clear p2
   try clear c3
   try clear c3b0
   try clear c3b1
   try clear c3b2
   obtain ⟨x5_1,rfl,HA,HK1,HB⟩:=hrel
   cases gk with
   | zero=>exact absurd HA.out (by simp [laws_eqTrmCellS.l0])
   | succ k1=>
    have H:=HA.out
    clear HA
    simp only [laws_eqTrmCellS.l0] at H
    by_cases c4:x5_1<(l0.length:Int)
    ·rw [if_pos c4] at H
     have c4b0:decide (x5_1<(l0.length:Int))=true:=decide_eq_true c4
     clear c4
     by_cases c5:0≤x5_1
     ·rw [if_pos c5] at H
      have c5b0:decide (0≤x5_1)=true:=decide_eq_true c5
      clear c5
      by_cases c6:x5_1<(l1.length:Int)
      ·rw [if_pos c6] at H
       have c6b0:decide (x5_1<(l1.length:Int))=true:=decide_eq_true c6
       clear c6
       replace H:=Option.bind_eq_some_iff.mp H
       obtain ⟨t305,A70,H⟩:=H
       try dsimp only at H
       have A7:=Aside0.mk A70
       clear A70
       by_cases c8:t305=true
       ·subst c8
        have H1:(laws_eqTrmCellS.l0 k1 l0 l1 (wrap64 (x5_1+1)))=some r:=qz51
        clear H
        have H:=H1
        clear H1
        have H':=Aside0.mk H
        clear H
        try go_wp2
        have n0_:=Aside0.mk (below_drew1 HB.out)
        clear HB
        have HB:=n0_
        clear n0_
        have p303:0≤(x5_1:Int):=of_decide_eq_true qz7
        have q303:x5_1<(l0.length:Int):=of_decide_eq_true qz7
        obtain ⟨ad303,e303,hx303_0,hx303_1,hx303_2⟩:=at_T47 HR0.out x5_1 p303 q303
        have hw303_2:=hx303_2
        have hw303_1:=hx303_1
        have hw303_0:=hx303_0
        cases e303
        replace hx303_0:=(HB.out.cell (World.block_lt_of_cell? w _ hx303_0)).trans hx303_0
        replace hx303_1:=(HB.out.cell (World.block_lt_of_cell? w _ hx303_1)).trans hx303_1
        replace hx303_2:=(HB.out.cell (World.block_lt_of_cell? w _ hx303_2)).trans hx303_2
        replace p303:=eq_true p303
        replace q303:=eq_true q303
        have p304:0≤(x5_1:Int):=of_decide_eq_true qz7
        have q304:x5_1<(l1.length:Int):=of_decide_eq_true qz7
        obtain ⟨ad304,e304,hx304_0,hx304_1,hx304_2⟩:=at_T47 HR1.out x5_1 p304 q304
        have hw304_2:=hx304_2
        have hw304_1:=hx304_1
        have hw304_0:=hx304_0
        cases e304
        replace hx304_0:=(HB.out.cell (World.block_lt_of_cell? w _ hx304_0)).trans hx304_0
        replace hx304_1:=(HB.out.cell (World.block_lt_of_cell? w _ hx304_1)).trans hx304_1
        replace hx304_2:=(HB.out.cell (World.block_lt_of_cell? w _ hx304_2)).trans hx304_2
        replace p304:=eq_true p304
        replace q304:=eq_true q304
        refine start_ (n:=10) (S:=fun w'=>w'.cell? (ad303.add ((x5_1).toNat * 3))=some (.int .i64 ((rd_T47 l0 x5_1).f0))∧w'.cell? ⟨(ad303.add ((x5_1).toNat * 3)).block,(ad303.add ((x5_1).toNat * 3)).off+1,none⟩=some (.int .i64 ((rd_T47 l0 x5_1).f1))∧w'.cell? ⟨(ad303.add ((x5_1).toNat * 3)).block,(ad303.add ((x5_1).toNat * 3)).off+2,none⟩=some (.string ((rd_T47 l0 x5_1).f2))∧w'.cell? (ad304.add ((x5_1).toNat * 3))=some (.int .i64 ((rd_T47 l1 x5_1).f0))∧w'.cell? ⟨(ad304.add ((x5_1).toNat * 3)).block,(ad304.add ((x5_1).toNat * 3)).off+1,none⟩=some (.int .i64 ((rd_T47 l1 x5_1).f1))∧w'.cell? ⟨(ad304.add ((x5_1).toNat * 3)).block,(ad304.add ((x5_1).toNat * 3)).off+2,none⟩=some (.string ((rd_T47 l1 x5_1).f2))) (ds:=[]) #[false,false,false,false,false,false,false,false,false,false] (by kernel_rfl) rfl rfl ⟨((HB.out.cell (World.block_lt_of_cell? w _ hw303_0)).trans hw303_0),((HB.out.cell (World.block_lt_of_cell? w _ hw303_1)).trans hw303_1),((HB.out.cell (World.block_lt_of_cell? w _ hw303_2)).trans hw303_2),((HB.out.cell (World.block_lt_of_cell? w _ hw304_0)).trans hw304_0),((HB.out.cell (World.block_lt_of_cell? w _ hw304_1)).trans hw304_1),((HB.out.cell (World.block_lt_of_cell? w _ hw304_2)).trans hw304_2)⟩ (fun hHeld=>?_);refine with_tabW laws_eqTrmCellS.tab6 laws_eqTrmCellS.bits6 (fun HT_ HW_=>?_)
        generalize wr.drew=w9 at HB hx303_0 hx303_1 hx303_2 hx304_0 hx304_1 hx304_2 hHeld ⊢
        refine pure_ (i:=0) (N:=some 17) (v:=?_) (a':=?_) #[true,false,false,false,false,false,false,false,false,false] rfl rfl (any_of HT_.out (by kernel_rfl)) (fun _ _ _ h=>h) (Or.inl ⟨by rfl,?_⟩) ?_ ?_
        rotate_left
        ·intro w'
         go_simp
         with_reducible rfl
        rotate_left
        ·simp only [Act.put,List.setIfInBounds_toArray,List.set_cons_zero,List.set_cons_succ,i64_w,i32_w]
         rfl
        refine pure_ (i:=1) (N:=some 18) (v:=?_) (a':=?_) #[true,true,false,false,false,false,false,false,false,false] rfl rfl (any_of HT_.out (by kernel_rfl)) (fun _ _ _ h=>h) (Or.inl ⟨by rfl,?_⟩) ?_ ?_
        rotate_left
        ·intro w'
         go_simp
         with_reducible rfl
        rotate_left
        ·simp only [Act.put,List.setIfInBounds_toArray,List.set_cons_zero,List.set_cons_succ,i64_w,i32_w]
         rfl
        refine pure_ (i:=2) (N:=some 19) (v:=?_) (a':=?_) #[true,true,true,false,false,false,false,false,false,false] rfl rfl (any_of HT_.out (by kernel_rfl)) (fun _ _ _ h=>h) (Or.inl ⟨by rfl,?_⟩) ?_ ?_
        rotate_left
        ·intro w'
         go_simp
         with_reducible rfl
        rotate_left
        ·simp only [Act.put,List.setIfInBounds_toArray,List.set_cons_zero,List.set_cons_succ,i64_w,i32_w]
         rfl
        refine pure_ (i:=4) (N:=some 21) (v:=?_) (a':=?_) #[true,true,true,false,true,false,false,false,false,false] rfl rfl (any_of HT_.out (by kernel_rfl)) (fun _ _ _ h=>h) (Or.inl ⟨by rfl,?_⟩) ?_ ?_
        rotate_left
        ·intro w'
         go_simp
         with_reducible rfl
        rotate_left
        ·simp only [Act.put,List.setIfInBounds_toArray,List.set_cons_zero,List.set_cons_succ,i64_w,i32_w]
         rfl
        refine pure_ (i:=5) (N:=some 22) (v:=?_) (a':=?_) #[true,true,true,false,true,true,false,false,false,false] rfl rfl (any_of HT_.out (by kernel_rfl)) (fun _ _ _ h=>h) (Or.inl ⟨by rfl,?_⟩) ?_ ?_
        rotate_left
        ·intro w'
         go_simp
         with_reducible rfl
        rotate_left
        ·simp only [Act.put,List.setIfInBounds_toArray,List.set_cons_zero,List.set_cons_succ,i64_w,i32_w]
         rfl
        refine pure_ (i:=6) (N:=some 23) (v:=?_) (a':=?_) #[true,true,true,false,true,true,true,false,false,false] rfl rfl (any_of HT_.out (by kernel_rfl)) (fun _ _ _ h=>h) (Or.inl ⟨by rfl,?_⟩) ?_ ?_
        rotate_left
        ·intro w'
         go_simp
         with_reducible rfl
        rotate_left
        ·simp only [Act.put,List.setIfInBounds_toArray,List.set_cons_zero,List.set_cons_succ,i64_w,i32_w]
         rfl
        refine take_ (i:=3) (N:=some 20) (v:=?_) (a':=?_) #[true,true,true,true,true,true,true,false,false,false] rfl rfl (take_ofW HT_.out HW_.out (by kernel_rfl)) (fun _ _ _ h=>h) (Or.inl ⟨by rfl,?_⟩) hHeld ?_ ?_
        rotate_left
        ·rintro w' ⟨s0,s1,s2,s3,s4,s5⟩
         go_simp
         with_reducible rfl
        rotate_left
        ·simp only [Act.put,List.setIfInBounds_toArray,List.set_cons_zero,List.set_cons_succ,i64_w,i32_w]
         rfl
        refine take_ (i:=7) (N:=some 24) (v:=?_) (a':=?_) #[true,true,true,true,true,true,true,true,false,false] rfl rfl (take_ofW HT_.out HW_.out (by kernel_rfl)) (fun _ _ _ h=>h) (Or.inl ⟨by rfl,?_⟩) hHeld ?_ ?_
        rotate_left
        ·rintro w' ⟨s0,s1,s2,s3,s4,s5⟩
         go_simp
         with_reducible rfl
        rotate_left
        ·simp only [Act.put,List.setIfInBounds_toArray,List.set_cons_zero,List.set_cons_succ,i64_w,i32_w]
         rfl
        refine one_ (i:=8) (N:=some 25) #[true,true,true,true,true,true,true,true,true,false] rfl rfl (one_of HT_.out (by kernel_rfl)) (by decide) (fun K hK=>?_)
        refine goes_ Tryd.func41 (by kernel_rfl) rfl #[.agg #[.int .i64 ((rd_T47 l0 x5_1).f0),.int .i64 ((rd_T47 l0 x5_1).f1),.string ((rd_T47 l0 x5_1).f2)],.agg #[.int .i64 ((rd_T47 l1 x5_1).f0),.int .i64 ((rd_T47 l1 x5_1).f1),.string ((rd_T47 l1 x5_1).f2)]] (by rfl) rfl rfl qz2 ?_
        with_reducible refine (laws_eqTrmCell.calls ((rd_T47 l0 x5_1).f0) ((rd_T47 l0 x5_1).f1) ((rd_T47 l0 x5_1).f2) ((rd_T47 l1 x5_1).f0) ((rd_T47 l1 x5_1).f1) ((rd_T47 l1 x5_1).f2) true _ A7.out).mono ?_
        rintro e w10 ⟨rfl,hb⟩
        refine ⟨_,rfl,?_⟩
        have n0_:=Aside0.mk (below_step qz1 hb)
        clear HB
        have HB:=n0_
        clear n0_
        (try clear hb)
        (try clear hb2)
        (try clear hk)
        (try clear hi)
        refine hK.out _ _ ⟨((HB.out.cell (World.block_lt_of_cell? w _ hw303_0)).trans hw303_0),((HB.out.cell (World.block_lt_of_cell? w _ hw303_1)).trans hw303_1),((HB.out.cell (World.block_lt_of_cell? w _ hw303_2)).trans hw303_2),((HB.out.cell (World.block_lt_of_cell? w _ hw304_0)).trans hw304_0),((HB.out.cell (World.block_lt_of_cell? w _ hw304_1)).trans hw304_1),((HB.out.cell (World.block_lt_of_cell? w _ hw304_2)).trans hw304_2)⟩ (fun hHeld=>?_)
        clear hK K
        refine norm_ (a':=?_) ?_ ?_
        rotate_left
        ·show Act.put _ (some 25) _=_
         simp only [Act.put,List.setIfInBounds_toArray,List.set_cons_zero,List.set_cons_succ,i64_w,i32_w]
         rfl
        refine pure_ (i:=9) (N:=some 26) (v:=?_) (a':=?_) #[true,true,true,true,true,true,true,true,true,true] rfl rfl (any_of HT_.out (by kernel_rfl)) (fun _ _ _ h=>h) (Or.inl ⟨by rfl,?_⟩) ?_ ?_
        rotate_left
        ·intro w'
         go_simp
         with_reducible rfl
        rotate_left
        ·simp only [Act.put,List.setIfInBounds_toArray,List.set_cons_zero,List.set_cons_succ,i64_w,i32_w]
         rfl
        refine done_ (done_of HT_.out (by kernel_rfl)) ?_
        try go_wp2
        go_roundg k1
        case measure=>have:=HK1.out;omega
        case rel=>exact ⟨(wrap64 (x5_1+1)),qz12,H',⟨by have:=HK1.out;omega⟩,⟨qz4⟩⟩
       ·replace c8:=Bool.eq_false_iff.mpr c8
        subst c8
        have H1:(some false)=some r:=qz23
        clear H
        have H:=H1
        clear H1
        obtain rfl:=Option.some.inj H
        try go_wp2
        have n0_:=Aside0.mk (below_drew1 HB.out)
        clear HB
        have HB:=n0_
        clear n0_
        have p303:0≤(x5_1:Int):=of_decide_eq_true qz7
        have q303:x5_1<(l0.length:Int):=of_decide_eq_true qz7
        obtain ⟨ad303,e303,hx303_0,hx303_1,hx303_2⟩:=at_T47 HR0.out x5_1 p303 q303
        have hw303_2:=hx303_2
        have hw303_1:=hx303_1
        have hw303_0:=hx303_0
        cases e303
        replace hx303_0:=(HB.out.cell (World.block_lt_of_cell? w _ hx303_0)).trans hx303_0
        replace hx303_1:=(HB.out.cell (World.block_lt_of_cell? w _ hx303_1)).trans hx303_1
        replace hx303_2:=(HB.out.cell (World.block_lt_of_cell? w _ hx303_2)).trans hx303_2
        replace p303:=eq_true p303
        replace q303:=eq_true q303
        have p304:0≤(x5_1:Int):=of_decide_eq_true qz7
        have q304:x5_1<(l1.length:Int):=of_decide_eq_true qz7
        obtain ⟨ad304,e304,hx304_0,hx304_1,hx304_2⟩:=at_T47 HR1.out x5_1 p304 q304
        have hw304_2:=hx304_2
        have hw304_1:=hx304_1
        have hw304_0:=hx304_0
        cases e304
        replace hx304_0:=(HB.out.cell (World.block_lt_of_cell? w _ hx304_0)).trans hx304_0
        replace hx304_1:=(HB.out.cell (World.block_lt_of_cell? w _ hx304_1)).trans hx304_1
        replace hx304_2:=(HB.out.cell (World.block_lt_of_cell? w _ hx304_2)).trans hx304_2
        replace p304:=eq_true p304
        replace q304:=eq_true q304
        refine start_ (n:=10) (S:=fun w'=>w'.cell? (ad303.add ((x5_1).toNat * 3))=some (.int .i64 ((rd_T47 l0 x5_1).f0))∧w'.cell? ⟨(ad303.add ((x5_1).toNat * 3)).block,(ad303.add ((x5_1).toNat * 3)).off+1,none⟩=some (.int .i64 ((rd_T47 l0 x5_1).f1))∧w'.cell? ⟨(ad303.add ((x5_1).toNat * 3)).block,(ad303.add ((x5_1).toNat * 3)).off+2,none⟩=some (.string ((rd_T47 l0 x5_1).f2))∧w'.cell? (ad304.add ((x5_1).toNat * 3))=some (.int .i64 ((rd_T47 l1 x5_1).f0))∧w'.cell? ⟨(ad304.add ((x5_1).toNat * 3)).block,(ad304.add ((x5_1).toNat * 3)).off+1,none⟩=some (.int .i64 ((rd_T47 l1 x5_1).f1))∧w'.cell? ⟨(ad304.add ((x5_1).toNat * 3)).block,(ad304.add ((x5_1).toNat * 3)).off+2,none⟩=some (.string ((rd_T47 l1 x5_1).f2))) (ds:=[]) #[false,false,false,false,false,false,false,false,false,false] (by kernel_rfl) rfl rfl ⟨((HB.out.cell (World.block_lt_of_cell? w _ hw303_0)).trans hw303_0),((HB.out.cell (World.block_lt_of_cell? w _ hw303_1)).trans hw303_1),((HB.out.cell (World.block_lt_of_cell? w _ hw303_2)).trans hw303_2),((HB.out.cell (World.block_lt_of_cell? w _ hw304_0)).trans hw304_0),((HB.out.cell (World.block_lt_of_cell? w _ hw304_1)).trans hw304_1),((HB.out.cell (World.block_lt_of_cell? w _ hw304_2)).trans hw304_2)⟩ (fun hHeld=>?_);refine with_tabW laws_eqTrmCellS.tab6 laws_eqTrmCellS.bits6 (fun HT_ HW_=>?_)
        generalize wr.drew=w11 at HB hx303_0 hx303_1 hx303_2 hx304_0 hx304_1 hx304_2 hHeld ⊢
        refine pure_ (i:=0) (N:=some 17) (v:=?_) (a':=?_) #[true,false,false,false,false,false,false,false,false,false] rfl rfl (any_of HT_.out (by kernel_rfl)) (fun _ _ _ h=>h) (Or.inl ⟨by rfl,?_⟩) ?_ ?_
        rotate_left
        ·intro w'
         go_simp
         with_reducible rfl
        rotate_left
        ·simp only [Act.put,List.setIfInBounds_toArray,List.set_cons_zero,List.set_cons_succ,i64_w,i32_w]
         rfl
        refine pure_ (i:=1) (N:=some 18) (v:=?_) (a':=?_) #[true,true,false,false,false,false,false,false,false,false] rfl rfl (any_of HT_.out (by kernel_rfl)) (fun _ _ _ h=>h) (Or.inl ⟨by rfl,?_⟩) ?_ ?_
        rotate_left
        ·intro w'
         go_simp
         with_reducible rfl
        rotate_left
        ·simp only [Act.put,List.setIfInBounds_toArray,List.set_cons_zero,List.set_cons_succ,i64_w,i32_w]
         rfl
        refine pure_ (i:=2) (N:=some 19) (v:=?_) (a':=?_) #[true,true,true,false,false,false,false,false,false,false] rfl rfl (any_of HT_.out (by kernel_rfl)) (fun _ _ _ h=>h) (Or.inl ⟨by rfl,?_⟩) ?_ ?_
        rotate_left
        ·intro w'
         go_simp
         with_reducible rfl
        rotate_left
        ·simp only [Act.put,List.setIfInBounds_toArray,List.set_cons_zero,List.set_cons_succ,i64_w,i32_w]
         rfl
        refine pure_ (i:=4) (N:=some 21) (v:=?_) (a':=?_) #[true,true,true,false,true,false,false,false,false,false] rfl rfl (any_of HT_.out (by kernel_rfl)) (fun _ _ _ h=>h) (Or.inl ⟨by rfl,?_⟩) ?_ ?_
        rotate_left
        ·intro w'
         go_simp
         with_reducible rfl
        rotate_left
        ·simp only [Act.put,List.setIfInBounds_toArray,List.set_cons_zero,List.set_cons_succ,i64_w,i32_w]
         rfl
        refine pure_ (i:=5) (N:=some 22) (v:=?_) (a':=?_) #[true,true,true,false,true,true,false,false,false,false] rfl rfl (any_of HT_.out (by kernel_rfl)) (fun _ _ _ h=>h) (Or.inl ⟨by rfl,?_⟩) ?_ ?_
        rotate_left
        ·intro w'
         go_simp
         with_reducible rfl
        rotate_left
        ·simp only [Act.put,List.setIfInBounds_toArray,List.set_cons_zero,List.set_cons_succ,i64_w,i32_w]
         rfl
        refine pure_ (i:=6) (N:=some 23) (v:=?_) (a':=?_) #[true,true,true,false,true,true,true,false,false,false] rfl rfl (any_of HT_.out (by kernel_rfl)) (fun _ _ _ h=>h) (Or.inl ⟨by rfl,?_⟩) ?_ ?_
        rotate_left
        ·intro w'
         go_simp
         with_reducible rfl
        rotate_left
        ·simp only [Act.put,List.setIfInBounds_toArray,List.set_cons_zero,List.set_cons_succ,i64_w,i32_w]
         rfl
        refine take_ (i:=3) (N:=some 20) (v:=?_) (a':=?_) #[true,true,true,true,true,true,true,false,false,false] rfl rfl (take_ofW HT_.out HW_.out (by kernel_rfl)) (fun _ _ _ h=>h) (Or.inl ⟨by rfl,?_⟩) hHeld ?_ ?_
        rotate_left
        ·rintro w' ⟨s0,s1,s2,s3,s4,s5⟩
         go_simp
         with_reducible rfl
        rotate_left
        ·simp only [Act.put,List.setIfInBounds_toArray,List.set_cons_zero,List.set_cons_succ,i64_w,i32_w]
         rfl
        refine take_ (i:=7) (N:=some 24) (v:=?_) (a':=?_) #[true,true,true,true,true,true,true,true,false,false] rfl rfl (take_ofW HT_.out HW_.out (by kernel_rfl)) (fun _ _ _ h=>h) (Or.inl ⟨by rfl,?_⟩) hHeld ?_ ?_
        rotate_left
        ·rintro w' ⟨s0,s1,s2,s3,s4,s5⟩
         go_simp
         with_reducible rfl
        rotate_left
        ·simp only [Act.put,List.setIfInBounds_toArray,List.set_cons_zero,List.set_cons_succ,i64_w,i32_w]
         rfl
        refine one_ (i:=8) (N:=some 25) #[true,true,true,true,true,true,true,true,true,false] rfl rfl (one_of HT_.out (by kernel_rfl)) (by decide) (fun K hK=>?_)
        refine goes_ Tryd.func41 (by kernel_rfl) rfl #[.agg #[.int .i64 ((rd_T47 l0 x5_1).f0),.int .i64 ((rd_T47 l0 x5_1).f1),.string ((rd_T47 l0 x5_1).f2)],.agg #[.int .i64 ((rd_T47 l1 x5_1).f0),.int .i64 ((rd_T47 l1 x5_1).f1),.string ((rd_T47 l1 x5_1).f2)]] (by rfl) rfl rfl qz2 ?_
        with_reducible refine (laws_eqTrmCell.calls ((rd_T47 l0 x5_1).f0) ((rd_T47 l0 x5_1).f1) ((rd_T47 l0 x5_1).f2) ((rd_T47 l1 x5_1).f0) ((rd_T47 l1 x5_1).f1) ((rd_T47 l1 x5_1).f2) false _ A7.out).mono ?_
        rintro e w12 ⟨rfl,hb⟩
        refine ⟨_,rfl,?_⟩
        have n0_:=Aside0.mk (below_step qz1 hb)
        clear HB
        have HB:=n0_
        clear n0_
        (try clear hb)
        (try clear hb2)
        (try clear hk)
        (try clear hi)
        refine hK.out _ _ ⟨((HB.out.cell (World.block_lt_of_cell? w _ hw303_0)).trans hw303_0),((HB.out.cell (World.block_lt_of_cell? w _ hw303_1)).trans hw303_1),((HB.out.cell (World.block_lt_of_cell? w _ hw303_2)).trans hw303_2),((HB.out.cell (World.block_lt_of_cell? w _ hw304_0)).trans hw304_0),((HB.out.cell (World.block_lt_of_cell? w _ hw304_1)).trans hw304_1),((HB.out.cell (World.block_lt_of_cell? w _ hw304_2)).trans hw304_2)⟩ (fun hHeld=>?_)
        clear hK K
        refine norm_ (a':=?_) ?_ ?_
        rotate_left
        ·show Act.put _ (some 25) _=_
         simp only [Act.put,List.setIfInBounds_toArray,List.set_cons_zero,List.set_cons_succ,i64_w,i32_w]
         rfl
        refine pure_ (i:=9) (N:=some 26) (v:=?_) (a':=?_) #[true,true,true,true,true,true,true,true,true,true] rfl rfl (any_of HT_.out (by kernel_rfl)) (fun _ _ _ h=>h) (Or.inl ⟨by rfl,?_⟩) ?_ ?_
        rotate_left
        ·intro w'
         go_simp
         with_reducible rfl
        rotate_left
        ·simp only [Act.put,List.setIfInBounds_toArray,List.set_cons_zero,List.set_cons_succ,i64_w,i32_w]
         rfl
        refine done_ (done_of HT_.out (by kernel_rfl)) ?_
        try go_wp2
        go_ret
        exact ⟨qz3,qz4⟩
      ·rw [if_neg c6] at H
       exact absurd H (by simp)
     ·rw [if_neg c5] at H
      exact absurd H (by simp)
    ·rw [if_neg c4] at H
     have c4b0:decide (x5_1<(l0.length:Int))=false:=decide_eq_false c4
     clear c4
     obtain rfl:=Option.some.inj H
     go_wp2
     go_ret
     exact ⟨qz3,qz4⟩
 ·rw [if_neg c3] at H
  have c3b0:((l0.length:Int) == (l1.length:Int))=false:=beq_eq_false_iff_ne.mpr c3
  have c3b1:((l0.length:Int) != (l1.length:Int))=true:=bne_iff_ne.mpr c3
  have c3b2:(l0.length == l1.length)=false:=qz134
  obtain rfl:=Option.some.inj H
  go_enter Tryd.func13,Tryd.ntmps13
  go_wp2
  go_ret
  exact ⟨qz3,qz4⟩

/-! ### laws_eqPrgGoal: function 98 -/
def laws_eqPrgGoal.f (k:Nat) (a0_0:Int) (l0_1:List (S47)) (l0_2:List (S47)) (l0_3:List (S47)) (a1_0:Int) (l1_1:List (S47)) (l1_2:List (S47)) (l1_3:List (S47)):Option (Bool):=if a0_0=a1_0 then ((laws_eqTrmCellS.f k l0_1 l1_1).bind fun t308=>(if t308=true then ((laws_eqTrmCellS.f k l0_2 l1_2).bind fun t309=>(if t309=true then ((laws_eqTrmCellS.f k l0_3 l1_3).bind fun t310=>(if t310=true then (some true) else (some false))) else (some false))) else (some false))) else (some false)
set_option maxHeartbeats 8000000 in
set_option maxRecDepth 100000 in
theorem laws_eqPrgGoal.calls (k:Nat) (a0_0:Int) (A0_1:Option Addr) (c0_1:Nat) (l0_1:List (S47)) (A0_2:Option Addr) (c0_2:Nat) (l0_2:List (S47)) (A0_3:Option Addr) (c0_3:Nat) (l0_3:List (S47)) (a1_0:Int) (A1_1:Option Addr) (c1_1:Nat) (l1_1:List (S47)) (A1_2:Option Addr) (c1_2:Nat) (l1_2:List (S47)) (A1_3:Option Addr) (c1_3:Nat) (l1_3:List (S47)) (r:Bool) (w:World) (hr0_1:Kd.C k47 w A0_1 l0_1.length l0_1) (hc0_1:l0_1.length≤c0_1) (hr0_2:Kd.C k47 w A0_2 l0_2.length l0_2) (hc0_2:l0_2.length≤c0_2) (hr0_3:Kd.C k47 w A0_3 l0_3.length l0_3) (hc0_3:l0_3.length≤c0_3) (hr1_1:Kd.C k47 w A1_1 l1_1.length l1_1) (hc1_1:l1_1.length≤c1_1) (hr1_2:Kd.C k47 w A1_2 l1_2.length l1_2) (hc1_2:l1_2.length≤c1_2) (hr1_3:Kd.C k47 w A1_3 l1_3.length l1_3) (hc1_3:l1_3.length≤c1_3) (h:laws_eqPrgGoal.f k a0_0 l0_1 l0_2 l0_3 a1_0 l1_1 l1_2 l1_3=some r) :
  Calls Tryd.prog 98 #[.agg #[.int .i64 a0_0,.slice A0_1 l0_1.length c0_1,.slice A0_2 l0_2.length c0_2,.slice A0_3 l0_3.length c0_3],.agg #[.int .i64 a1_0,.slice A1_1 l1_1.length c1_1,.slice A1_2 l1_2.length c1_2,.slice A1_3 l1_3.length c1_3]] w fun e w'=>e = .returned (.bool r)∧Below w.heap.size w w':=by
 have hu42:=Tryd.underlying42
 have HR0_1:=Aside0.mk hr0_1
 have HC0_1:=Aside0.mk hc0_1
 clear hr0_1 hc0_1
 have HR0_2:=Aside0.mk hr0_2
 have HC0_2:=Aside0.mk hc0_2
 clear hr0_2 hc0_2
 have HR0_3:=Aside0.mk hr0_3
 have HC0_3:=Aside0.mk hc0_3
 clear hr0_3 hc0_3
 have HR1_1:=Aside0.mk hr1_1
 have HC1_1:=Aside0.mk hc1_1
 clear hr1_1 hc1_1
 have HR1_2:=Aside0.mk hr1_2
 have HC1_2:=Aside0.mk hc1_2
 clear hr1_2 hc1_2
 have HR1_3:=Aside0.mk hr1_3
 have HC1_3:=Aside0.mk hc1_3
 clear hr1_3 hc1_3
 have HB:=Aside0.mk (Below.refl w.heap.size w)
 have H:(if a0_0=a1_0 then ((laws_eqTrmCellS.f k l0_1 l1_1).bind fun t308=>(if t308=true then ((laws_eqTrmCellS.f k l0_2 l1_2).bind fun t309=>(if t309=true then ((laws_eqTrmCellS.f k l0_3 l1_3).bind fun t310=>(if t310=true then (some true) else (some false))) else (some false))) else (some false))) else (some false))=some r:=h
 clear h
 by_cases c3:a0_0=a1_0
 ·rw [if_pos c3] at H
  have c3b0:(a0_0 == a1_0)=true:=beq_iff_eq.mpr c3
  have c3b1:(a0_0 != a1_0)=false:=bne_eq_false_iff_eq.mpr c3
  clear c3
  replace H:=Option.bind_eq_some_iff.mp H
  obtain ⟨t308,A40,H⟩:=H
  try dsimp only at H
  have A4:=Aside0.mk A40
  clear A40
  by_cases c5:t308=true
  ·subst c5
   have H1:((laws_eqTrmCellS.f k l0_2 l1_2).bind fun t309=>(if t309=true then ((laws_eqTrmCellS.f k l0_3 l1_3).bind fun t310=>(if t310=true then (some true) else (some false))) else (some false)))=some r:=qz51
   clear H
   have H:=H1
   clear H1
   replace H:=Option.bind_eq_some_iff.mp H
   obtain ⟨t309,A60,H⟩:=H
   try dsimp only at H
   have A6:=Aside0.mk A60
   clear A60
   by_cases c7:t309=true
   ·subst c7
    have H1:((laws_eqTrmCellS.f k l0_3 l1_3).bind fun t310=>(if t310=true then (some true) else (some false)))=some r:=qz51
    clear H
    have H:=H1
    clear H1
    replace H:=Option.bind_eq_some_iff.mp H
    obtain ⟨t310,A80,H⟩:=H
    try dsimp only at H
    have A8:=Aside0.mk A80
    clear A80
    by_cases c9:t310=true
    ·subst c9
     have H1:(some true)=some r:=qz51
     clear H
     have H:=H1
     clear H1
     obtain rfl:=Option.some.inj H
     go_enter Tryd.func98,Tryd.ntmps98
     go_wp2_with (first|((with_reducible refine gate_dst (N:=2) rfl ?_);refine box_event ?hg (N:=2) ?hd (cs:=#[.int .i64 a0_0,.slice A0_1 l0_1.length c0_1,.slice A0_2 l0_2.length c0_2,.slice A0_3 l0_3.length c0_3]) (t:=42) ?hr ?_;(case hd=>rfl);(case hg=>rfl);(case hr=>first|(go_simp;done)|(go_simp;rfl));intro gb306 hg w10 hbox hb;have n0_:=Aside0.mk (below_step qz1 hb);have n1_:=Aside0.mk (hbox);have n2_:=Aside0.mk ((by rw [hg];exact (below_size qz1):w.heap.size≤gb306));have n3_:=Aside0.mk ((by rw [hg];exact (below_size qz1):w.heap.size≤gb306));clear HB;have HB:=n0_;have BK306:=n1_;have GW306:=n2_;have GE306:=n3_;clear n0_ n1_ n2_ n3_ hb hbox hg)|((with_reducible refine gate_dst (N:=3) rfl ?_);refine box_event ?hg (N:=3) ?hd (cs:=#[.int .i64 a1_0,.slice A1_1 l1_1.length c1_1,.slice A1_2 l1_2.length c1_2,.slice A1_3 l1_3.length c1_3]) (t:=42) ?hr ?_;(case hd=>rfl);(case hg=>rfl);(case hr=>first|(go_simp;done)|(go_simp;rfl));intro gb307 hg w11 hbox hb;have n0_:=Aside0.mk (blk_below (g:=gb306) (o:=.cells #[.int .i64 a0_0,.slice A0_1 l0_1.length c0_1,.slice A0_2 l0_2.length c0_2,.slice A0_3 l0_3.length c0_3] 42 (0,0)) qz27 hb);have n1_:=Aside0.mk (below_step qz30 hb);have n2_:=Aside0.mk (hbox);have n3_:=Aside0.mk ((by rw [hg];exact (below_size qz30):w.heap.size≤gb307));have n4_:=Aside0.mk ((by rw [hg];exact (below_size qz30):w.heap.size≤gb307));have n5_:=Aside0.mk ((by rw [hg];exact Nat.ne_of_lt (blk_lt (g:=gb306) (o:=.cells #[.int .i64 a0_0,.slice A0_1 l0_1.length c0_1,.slice A0_2 l0_2.length c0_2,.slice A0_3 l0_3.length c0_3] 42 (0,0)) qz27):gb306≠gb307));have n6_:=Aside0.mk ((by rw [hg];exact Nat.ne_of_gt (blk_lt (g:=gb306) (o:=.cells #[.int .i64 a0_0,.slice A0_1 l0_1.length c0_1,.slice A0_2 l0_2.length c0_2,.slice A0_3 l0_3.length c0_3] 42 (0,0)) qz27):gb307≠gb306));clear BK306 HB;have BK306:=n0_;have HB:=n1_;have BK307:=n2_;have GW307:=n3_;have GE307:=n4_;have NB306_307:=n5_;have NB307_306:=n6_;clear n0_ n1_ n2_ n3_ n4_ n5_ n6_ hb hbox hg;have hnb12:=NB306_307.out;have hnc12:=NB307_306.out;have hcz13_0:w11.cell? ⟨gb306,0,none⟩=some (.int .i64 a0_0):=(blk_cell BK306.out 0).trans rfl;have hcz13_1:w11.cell? ⟨gb306,1,none⟩=some (.slice A0_1 l0_1.length c0_1):=(blk_cell BK306.out 1).trans rfl;have hcz13_2:w11.cell? ⟨gb306,2,none⟩=some (.slice A0_2 l0_2.length c0_2):=(blk_cell BK306.out 2).trans rfl;have hcz13_3:w11.cell? ⟨gb306,3,none⟩=some (.slice A0_3 l0_3.length c0_3):=(blk_cell BK306.out 3).trans rfl;have hfz13_0:=blk_frozen BK306.out 0;have hfz13_1:=blk_frozen BK306.out 1;have hfz13_2:=blk_frozen BK306.out 2;have hfz13_3:=blk_frozen BK306.out 3;have hcz14_0:w11.cell? ⟨gb307,0,none⟩=some (.int .i64 a1_0):=(blk_cell BK307.out 0).trans rfl;have hcz14_1:w11.cell? ⟨gb307,1,none⟩=some (.slice A1_1 l1_1.length c1_1):=(blk_cell BK307.out 1).trans rfl;have hcz14_2:w11.cell? ⟨gb307,2,none⟩=some (.slice A1_2 l1_2.length c1_2):=(blk_cell BK307.out 2).trans rfl;have hcz14_3:w11.cell? ⟨gb307,3,none⟩=some (.slice A1_3 l1_3.length c1_3):=(blk_cell BK307.out 3).trans rfl;have hfz14_0:=blk_frozen BK307.out 0;have hfz14_1:=blk_frozen BK307.out 1;have hfz14_2:=blk_frozen BK307.out 2;have hfz14_3:=blk_frozen BK307.out 3)|((with_reducible refine gate_callee (f:=13) rfl ?_);refine goesL_ (some 14) rfl rfl Tryd.func13 (by kernel_rfl) rfl #[.slice A0_1 l0_1.length c0_1,.slice A1_1 l1_1.length c1_1] rfl qz2 ?_;(with_reducible refine (laws_eqTrmCellS.calls k _ _ l0_1 _ _ l1_1 true _ ?side1 ?side2 ?side3 ?side4 A4.out).mono ?_);(case side1=>exact qz5);(case side2=>exact HC0_1.out);(case side3=>exact qz61);(case side4=>exact HC1_1.out);rintro e w15 ⟨rfl,hb⟩;refine ⟨_,rfl,?_⟩;have n0_:=Aside0.mk (blk_below (g:=gb306) (o:=.cells #[.int .i64 a0_0,.slice A0_1 l0_1.length c0_1,.slice A0_2 l0_2.length c0_2,.slice A0_3 l0_3.length c0_3] 42 (0,0)) qz27 hb);have n1_:=Aside0.mk (blk_below (g:=gb307) (o:=.cells #[.int .i64 a1_0,.slice A1_1 l1_1.length c1_1,.slice A1_2 l1_2.length c1_2,.slice A1_3 l1_3.length c1_3] 42 (0,0)) qz76 hb);have n2_:=Aside0.mk (below_step qz28 hb);clear BK306 BK307 HB;have BK306:=n0_;have BK307:=n1_;have HB:=n2_;clear n0_ n1_ n2_;(try clear hb);(try clear hb2);(try clear hk);(try clear hi);have hcz16_0:w15.cell? ⟨gb306,0,none⟩=some (.int .i64 a0_0):=(blk_cell BK306.out 0).trans rfl;have hcz16_1:w15.cell? ⟨gb306,1,none⟩=some (.slice A0_1 l0_1.length c0_1):=(blk_cell BK306.out 1).trans rfl;have hcz16_2:w15.cell? ⟨gb306,2,none⟩=some (.slice A0_2 l0_2.length c0_2):=(blk_cell BK306.out 2).trans rfl;have hcz16_3:w15.cell? ⟨gb306,3,none⟩=some (.slice A0_3 l0_3.length c0_3):=(blk_cell BK306.out 3).trans rfl;have hfz16_0:=blk_frozen BK306.out 0;have hfz16_1:=blk_frozen BK306.out 1;have hfz16_2:=blk_frozen BK306.out 2;have hfz16_3:=blk_frozen BK306.out 3;have hcz17_0:w15.cell? ⟨gb307,0,none⟩=some (.int .i64 a1_0):=(blk_cell BK307.out 0).trans rfl;have hcz17_1:w15.cell? ⟨gb307,1,none⟩=some (.slice A1_1 l1_1.length c1_1):=(blk_cell BK307.out 1).trans rfl;have hcz17_2:w15.cell? ⟨gb307,2,none⟩=some (.slice A1_2 l1_2.length c1_2):=(blk_cell BK307.out 2).trans rfl;have hcz17_3:w15.cell? ⟨gb307,3,none⟩=some (.slice A1_3 l1_3.length c1_3):=(blk_cell BK307.out 3).trans rfl;have hfz17_0:=blk_frozen BK307.out 0;have hfz17_1:=blk_frozen BK307.out 1;have hfz17_2:=blk_frozen BK307.out 2;have hfz17_3:=blk_frozen BK307.out 3)|((with_reducible refine gate_callee (f:=13) rfl ?_);refine goesL_ (some 20) rfl rfl Tryd.func13 (by kernel_rfl) rfl #[.slice A0_2 l0_2.length c0_2,.slice A1_2 l1_2.length c1_2] rfl qz2 ?_;(with_reducible refine (laws_eqTrmCellS.calls k _ _ l0_2 _ _ l1_2 true _ ?side1 ?side2 ?side3 ?side4 A6.out).mono ?_);(case side1=>exact qz25);(case side2=>exact HC0_2.out);(case side3=>exact qz121);(case side4=>exact HC1_2.out);rintro e w18 ⟨rfl,hb⟩;refine ⟨_,rfl,?_⟩;have n0_:=Aside0.mk (blk_below (g:=gb306) (o:=.cells #[.int .i64 a0_0,.slice A0_1 l0_1.length c0_1,.slice A0_2 l0_2.length c0_2,.slice A0_3 l0_3.length c0_3] 42 (0,0)) qz27 hb);have n1_:=Aside0.mk (blk_below (g:=gb307) (o:=.cells #[.int .i64 a1_0,.slice A1_1 l1_1.length c1_1,.slice A1_2 l1_2.length c1_2,.slice A1_3 l1_3.length c1_3] 42 (0,0)) qz76 hb);have n2_:=Aside0.mk (below_step qz28 hb);clear BK306 BK307 HB;have BK306:=n0_;have BK307:=n1_;have HB:=n2_;clear n0_ n1_ n2_;(try clear hb);(try clear hb2);(try clear hk);(try clear hi);have hcz19_0:w18.cell? ⟨gb306,0,none⟩=some (.int .i64 a0_0):=(blk_cell BK306.out 0).trans rfl;have hcz19_1:w18.cell? ⟨gb306,1,none⟩=some (.slice A0_1 l0_1.length c0_1):=(blk_cell BK306.out 1).trans rfl;have hcz19_2:w18.cell? ⟨gb306,2,none⟩=some (.slice A0_2 l0_2.length c0_2):=(blk_cell BK306.out 2).trans rfl;have hcz19_3:w18.cell? ⟨gb306,3,none⟩=some (.slice A0_3 l0_3.length c0_3):=(blk_cell BK306.out 3).trans rfl;have hfz19_0:=blk_frozen BK306.out 0;have hfz19_1:=blk_frozen BK306.out 1;have hfz19_2:=blk_frozen BK306.out 2;have hfz19_3:=blk_frozen BK306.out 3;have hcz20_0:w18.cell? ⟨gb307,0,none⟩=some (.int .i64 a1_0):=(blk_cell BK307.out 0).trans rfl;have hcz20_1:w18.cell? ⟨gb307,1,none⟩=some (.slice A1_1 l1_1.length c1_1):=(blk_cell BK307.out 1).trans rfl;have hcz20_2:w18.cell? ⟨gb307,2,none⟩=some (.slice A1_2 l1_2.length c1_2):=(blk_cell BK307.out 2).trans rfl;have hcz20_3:w18.cell? ⟨gb307,3,none⟩=some (.slice A1_3 l1_3.length c1_3):=(blk_cell BK307.out 3).trans rfl;have hfz20_0:=blk_frozen BK307.out 0;have hfz20_1:=blk_frozen BK307.out 1;have hfz20_2:=blk_frozen BK307.out 2;have hfz20_3:=blk_frozen BK307.out 3)|((with_reducible refine gate_callee (f:=13) rfl ?_);refine goesL_ (some 26) rfl rfl Tryd.func13 (by kernel_rfl) rfl #[.slice A0_3 l0_3.length c0_3,.slice A1_3 l1_3.length c1_3] rfl qz2 ?_;(with_reducible refine (laws_eqTrmCellS.calls k _ _ l0_3 _ _ l1_3 true _ ?side1 ?side2 ?side3 ?side4 A8.out).mono ?_);(case side1=>exact qz52);(case side2=>exact HC0_3.out);(case side3=>exact qz170);(case side4=>exact HC1_3.out);rintro e w21 ⟨rfl,hb⟩;refine ⟨_,rfl,?_⟩;have n0_:=Aside0.mk (blk_below (g:=gb306) (o:=.cells #[.int .i64 a0_0,.slice A0_1 l0_1.length c0_1,.slice A0_2 l0_2.length c0_2,.slice A0_3 l0_3.length c0_3] 42 (0,0)) qz27 hb);have n1_:=Aside0.mk (blk_below (g:=gb307) (o:=.cells #[.int .i64 a1_0,.slice A1_1 l1_1.length c1_1,.slice A1_2 l1_2.length c1_2,.slice A1_3 l1_3.length c1_3] 42 (0,0)) qz76 hb);have n2_:=Aside0.mk (below_step qz28 hb);clear BK306 BK307 HB;have BK306:=n0_;have BK307:=n1_;have HB:=n2_;clear n0_ n1_ n2_;(try clear hb);(try clear hb2);(try clear hk);(try clear hi)))
     go_ret
     exact ⟨qz3,qz28⟩
    ·replace c9:=Bool.eq_false_iff.mpr c9
     subst c9
     have H1:(some false)=some r:=qz23
     clear H
     have H:=H1
     clear H1
     obtain rfl:=Option.some.inj H
     go_enter Tryd.func98,Tryd.ntmps98
     go_wp2_with (first|((with_reducible refine gate_dst (N:=2) rfl ?_);refine box_event ?hg (N:=2) ?hd (cs:=#[.int .i64 a0_0,.slice A0_1 l0_1.length c0_1,.slice A0_2 l0_2.length c0_2,.slice A0_3 l0_3.length c0_3]) (t:=42) ?hr ?_;(case hd=>rfl);(case hg=>rfl);(case hr=>first|(go_simp;done)|(go_simp;rfl));intro gb306 hg w22 hbox hb;have n0_:=Aside0.mk (below_step qz1 hb);have n1_:=Aside0.mk (hbox);have n2_:=Aside0.mk ((by rw [hg];exact (below_size qz1):w.heap.size≤gb306));have n3_:=Aside0.mk ((by rw [hg];exact (below_size qz1):w.heap.size≤gb306));clear HB;have HB:=n0_;have BK306:=n1_;have GW306:=n2_;have GE306:=n3_;clear n0_ n1_ n2_ n3_ hb hbox hg)|((with_reducible refine gate_dst (N:=3) rfl ?_);refine box_event ?hg (N:=3) ?hd (cs:=#[.int .i64 a1_0,.slice A1_1 l1_1.length c1_1,.slice A1_2 l1_2.length c1_2,.slice A1_3 l1_3.length c1_3]) (t:=42) ?hr ?_;(case hd=>rfl);(case hg=>rfl);(case hr=>first|(go_simp;done)|(go_simp;rfl));intro gb307 hg w23 hbox hb;have n0_:=Aside0.mk (blk_below (g:=gb306) (o:=.cells #[.int .i64 a0_0,.slice A0_1 l0_1.length c0_1,.slice A0_2 l0_2.length c0_2,.slice A0_3 l0_3.length c0_3] 42 (0,0)) qz27 hb);have n1_:=Aside0.mk (below_step qz30 hb);have n2_:=Aside0.mk (hbox);have n3_:=Aside0.mk ((by rw [hg];exact (below_size qz30):w.heap.size≤gb307));have n4_:=Aside0.mk ((by rw [hg];exact (below_size qz30):w.heap.size≤gb307));have n5_:=Aside0.mk ((by rw [hg];exact Nat.ne_of_lt (blk_lt (g:=gb306) (o:=.cells #[.int .i64 a0_0,.slice A0_1 l0_1.length c0_1,.slice A0_2 l0_2.length c0_2,.slice A0_3 l0_3.length c0_3] 42 (0,0)) qz27):gb306≠gb307));have n6_:=Aside0.mk ((by rw [hg];exact Nat.ne_of_gt (blk_lt (g:=gb306) (o:=.cells #[.int .i64 a0_0,.slice A0_1 l0_1.length c0_1,.slice A0_2 l0_2.length c0_2,.slice A0_3 l0_3.length c0_3] 42 (0,0)) qz27):gb307≠gb306));clear BK306 HB;have BK306:=n0_;have HB:=n1_;have BK307:=n2_;have GW307:=n3_;have GE307:=n4_;have NB306_307:=n5_;have NB307_306:=n6_;clear n0_ n1_ n2_ n3_ n4_ n5_ n6_ hb hbox hg;have hnb24:=NB306_307.out;have hnc24:=NB307_306.out;have hcz25_0:w23.cell? ⟨gb306,0,none⟩=some (.int .i64 a0_0):=(blk_cell BK306.out 0).trans rfl;have hcz25_1:w23.cell? ⟨gb306,1,none⟩=some (.slice A0_1 l0_1.length c0_1):=(blk_cell BK306.out 1).trans rfl;have hcz25_2:w23.cell? ⟨gb306,2,none⟩=some (.slice A0_2 l0_2.length c0_2):=(blk_cell BK306.out 2).trans rfl;have hcz25_3:w23.cell? ⟨gb306,3,none⟩=some (.slice A0_3 l0_3.length c0_3):=(blk_cell BK306.out 3).trans rfl;have hfz25_0:=blk_frozen BK306.out 0;have hfz25_1:=blk_frozen BK306.out 1;have hfz25_2:=blk_frozen BK306.out 2;have hfz25_3:=blk_frozen BK306.out 3;have hcz26_0:w23.cell? ⟨gb307,0,none⟩=some (.int .i64 a1_0):=(blk_cell BK307.out 0).trans rfl;have hcz26_1:w23.cell? ⟨gb307,1,none⟩=some (.slice A1_1 l1_1.length c1_1):=(blk_cell BK307.out 1).trans rfl;have hcz26_2:w23.cell? ⟨gb307,2,none⟩=some (.slice A1_2 l1_2.length c1_2):=(blk_cell BK307.out 2).trans rfl;have hcz26_3:w23.cell? ⟨gb307,3,none⟩=some (.slice A1_3 l1_3.length c1_3):=(blk_cell BK307.out 3).trans rfl;have hfz26_0:=blk_frozen BK307.out 0;have hfz26_1:=blk_frozen BK307.out 1;have hfz26_2:=blk_frozen BK307.out 2;have hfz26_3:=blk_frozen BK307.out 3)|((with_reducible refine gate_callee (f:=13) rfl ?_);refine goesL_ (some 14) rfl rfl Tryd.func13 (by kernel_rfl) rfl #[.slice A0_1 l0_1.length c0_1,.slice A1_1 l1_1.length c1_1] rfl qz2 ?_;(with_reducible refine (laws_eqTrmCellS.calls k _ _ l0_1 _ _ l1_1 true _ ?side1 ?side2 ?side3 ?side4 A4.out).mono ?_);(case side1=>exact qz5);(case side2=>exact HC0_1.out);(case side3=>exact qz61);(case side4=>exact HC1_1.out);rintro e w27 ⟨rfl,hb⟩;refine ⟨_,rfl,?_⟩;have n0_:=Aside0.mk (blk_below (g:=gb306) (o:=.cells #[.int .i64 a0_0,.slice A0_1 l0_1.length c0_1,.slice A0_2 l0_2.length c0_2,.slice A0_3 l0_3.length c0_3] 42 (0,0)) qz27 hb);have n1_:=Aside0.mk (blk_below (g:=gb307) (o:=.cells #[.int .i64 a1_0,.slice A1_1 l1_1.length c1_1,.slice A1_2 l1_2.length c1_2,.slice A1_3 l1_3.length c1_3] 42 (0,0)) qz76 hb);have n2_:=Aside0.mk (below_step qz28 hb);clear BK306 BK307 HB;have BK306:=n0_;have BK307:=n1_;have HB:=n2_;clear n0_ n1_ n2_;(try clear hb);(try clear hb2);(try clear hk);(try clear hi);have hcz28_0:w27.cell? ⟨gb306,0,none⟩=some (.int .i64 a0_0):=(blk_cell BK306.out 0).trans rfl;have hcz28_1:w27.cell? ⟨gb306,1,none⟩=some (.slice A0_1 l0_1.length c0_1):=(blk_cell BK306.out 1).trans rfl;have hcz28_2:w27.cell? ⟨gb306,2,none⟩=some (.slice A0_2 l0_2.length c0_2):=(blk_cell BK306.out 2).trans rfl;have hcz28_3:w27.cell? ⟨gb306,3,none⟩=some (.slice A0_3 l0_3.length c0_3):=(blk_cell BK306.out 3).trans rfl;have hfz28_0:=blk_frozen BK306.out 0;have hfz28_1:=blk_frozen BK306.out 1;have hfz28_2:=blk_frozen BK306.out 2;have hfz28_3:=blk_frozen BK306.out 3;have hcz29_0:w27.cell? ⟨gb307,0,none⟩=some (.int .i64 a1_0):=(blk_cell BK307.out 0).trans rfl;have hcz29_1:w27.cell? ⟨gb307,1,none⟩=some (.slice A1_1 l1_1.length c1_1):=(blk_cell BK307.out 1).trans rfl;have hcz29_2:w27.cell? ⟨gb307,2,none⟩=some (.slice A1_2 l1_2.length c1_2):=(blk_cell BK307.out 2).trans rfl;have hcz29_3:w27.cell? ⟨gb307,3,none⟩=some (.slice A1_3 l1_3.length c1_3):=(blk_cell BK307.out 3).trans rfl;have hfz29_0:=blk_frozen BK307.out 0;have hfz29_1:=blk_frozen BK307.out 1;have hfz29_2:=blk_frozen BK307.out 2;have hfz29_3:=blk_frozen BK307.out 3)|((with_reducible refine gate_callee (f:=13) rfl ?_);refine goesL_ (some 20) rfl rfl Tryd.func13 (by kernel_rfl) rfl #[.slice A0_2 l0_2.length c0_2,.slice A1_2 l1_2.length c1_2] rfl qz2 ?_;(with_reducible refine (laws_eqTrmCellS.calls k _ _ l0_2 _ _ l1_2 true _ ?side1 ?side2 ?side3 ?side4 A6.out).mono ?_);(case side1=>exact qz25);(case side2=>exact HC0_2.out);(case side3=>exact qz121);(case side4=>exact HC1_2.out);rintro e w30 ⟨rfl,hb⟩;refine ⟨_,rfl,?_⟩;have n0_:=Aside0.mk (blk_below (g:=gb306) (o:=.cells #[.int .i64 a0_0,.slice A0_1 l0_1.length c0_1,.slice A0_2 l0_2.length c0_2,.slice A0_3 l0_3.length c0_3] 42 (0,0)) qz27 hb);have n1_:=Aside0.mk (blk_below (g:=gb307) (o:=.cells #[.int .i64 a1_0,.slice A1_1 l1_1.length c1_1,.slice A1_2 l1_2.length c1_2,.slice A1_3 l1_3.length c1_3] 42 (0,0)) qz76 hb);have n2_:=Aside0.mk (below_step qz28 hb);clear BK306 BK307 HB;have BK306:=n0_;have BK307:=n1_;have HB:=n2_;clear n0_ n1_ n2_;(try clear hb);(try clear hb2);(try clear hk);(try clear hi);have hcz31_0:w30.cell? ⟨gb306,0,none⟩=some (.int .i64 a0_0):=(blk_cell BK306.out 0).trans rfl;have hcz31_1:w30.cell? ⟨gb306,1,none⟩=some (.slice A0_1 l0_1.length c0_1):=(blk_cell BK306.out 1).trans rfl;have hcz31_2:w30.cell? ⟨gb306,2,none⟩=some (.slice A0_2 l0_2.length c0_2):=(blk_cell BK306.out 2).trans rfl;have hcz31_3:w30.cell? ⟨gb306,3,none⟩=some (.slice A0_3 l0_3.length c0_3):=(blk_cell BK306.out 3).trans rfl;have hfz31_0:=blk_frozen BK306.out 0;have hfz31_1:=blk_frozen BK306.out 1;have hfz31_2:=blk_frozen BK306.out 2;have hfz31_3:=blk_frozen BK306.out 3;have hcz32_0:w30.cell? ⟨gb307,0,none⟩=some (.int .i64 a1_0):=(blk_cell BK307.out 0).trans rfl;have hcz32_1:w30.cell? ⟨gb307,1,none⟩=some (.slice A1_1 l1_1.length c1_1):=(blk_cell BK307.out 1).trans rfl;have hcz32_2:w30.cell? ⟨gb307,2,none⟩=some (.slice A1_2 l1_2.length c1_2):=(blk_cell BK307.out 2).trans rfl;have hcz32_3:w30.cell? ⟨gb307,3,none⟩=some (.slice A1_3 l1_3.length c1_3):=(blk_cell BK307.out 3).trans rfl;have hfz32_0:=blk_frozen BK307.out 0;have hfz32_1:=blk_frozen BK307.out 1;have hfz32_2:=blk_frozen BK307.out 2;have hfz32_3:=blk_frozen BK307.out 3)|((with_reducible refine gate_callee (f:=13) rfl ?_);refine goesL_ (some 26) rfl rfl Tryd.func13 (by kernel_rfl) rfl #[.slice A0_3 l0_3.length c0_3,.slice A1_3 l1_3.length c1_3] rfl qz2 ?_;(with_reducible refine (laws_eqTrmCellS.calls k _ _ l0_3 _ _ l1_3 false _ ?side1 ?side2 ?side3 ?side4 A8.out).mono ?_);(case side1=>exact qz52);(case side2=>exact HC0_3.out);(case side3=>exact qz170);(case side4=>exact HC1_3.out);rintro e w33 ⟨rfl,hb⟩;refine ⟨_,rfl,?_⟩;have n0_:=Aside0.mk (blk_below (g:=gb306) (o:=.cells #[.int .i64 a0_0,.slice A0_1 l0_1.length c0_1,.slice A0_2 l0_2.length c0_2,.slice A0_3 l0_3.length c0_3] 42 (0,0)) qz27 hb);have n1_:=Aside0.mk (blk_below (g:=gb307) (o:=.cells #[.int .i64 a1_0,.slice A1_1 l1_1.length c1_1,.slice A1_2 l1_2.length c1_2,.slice A1_3 l1_3.length c1_3] 42 (0,0)) qz76 hb);have n2_:=Aside0.mk (below_step qz28 hb);clear BK306 BK307 HB;have BK306:=n0_;have BK307:=n1_;have HB:=n2_;clear n0_ n1_ n2_;(try clear hb);(try clear hb2);(try clear hk);(try clear hi)))
     go_ret
     exact ⟨qz3,qz28⟩
   ·replace c7:=Bool.eq_false_iff.mpr c7
    subst c7
    have H1:(some false)=some r:=qz23
    clear H
    have H:=H1
    clear H1
    obtain rfl:=Option.some.inj H
    go_enter Tryd.func98,Tryd.ntmps98
    go_wp2_with (first|((with_reducible refine gate_dst (N:=2) rfl ?_);refine box_event ?hg (N:=2) ?hd (cs:=#[.int .i64 a0_0,.slice A0_1 l0_1.length c0_1,.slice A0_2 l0_2.length c0_2,.slice A0_3 l0_3.length c0_3]) (t:=42) ?hr ?_;(case hd=>rfl);(case hg=>rfl);(case hr=>first|(go_simp;done)|(go_simp;rfl));intro gb306 hg w34 hbox hb;have n0_:=Aside0.mk (below_step qz1 hb);have n1_:=Aside0.mk (hbox);have n2_:=Aside0.mk ((by rw [hg];exact (below_size qz1):w.heap.size≤gb306));have n3_:=Aside0.mk ((by rw [hg];exact (below_size qz1):w.heap.size≤gb306));clear HB;have HB:=n0_;have BK306:=n1_;have GW306:=n2_;have GE306:=n3_;clear n0_ n1_ n2_ n3_ hb hbox hg)|((with_reducible refine gate_dst (N:=3) rfl ?_);refine box_event ?hg (N:=3) ?hd (cs:=#[.int .i64 a1_0,.slice A1_1 l1_1.length c1_1,.slice A1_2 l1_2.length c1_2,.slice A1_3 l1_3.length c1_3]) (t:=42) ?hr ?_;(case hd=>rfl);(case hg=>rfl);(case hr=>first|(go_simp;done)|(go_simp;rfl));intro gb307 hg w35 hbox hb;have n0_:=Aside0.mk (blk_below (g:=gb306) (o:=.cells #[.int .i64 a0_0,.slice A0_1 l0_1.length c0_1,.slice A0_2 l0_2.length c0_2,.slice A0_3 l0_3.length c0_3] 42 (0,0)) qz27 hb);have n1_:=Aside0.mk (below_step qz30 hb);have n2_:=Aside0.mk (hbox);have n3_:=Aside0.mk ((by rw [hg];exact (below_size qz30):w.heap.size≤gb307));have n4_:=Aside0.mk ((by rw [hg];exact (below_size qz30):w.heap.size≤gb307));have n5_:=Aside0.mk ((by rw [hg];exact Nat.ne_of_lt (blk_lt (g:=gb306) (o:=.cells #[.int .i64 a0_0,.slice A0_1 l0_1.length c0_1,.slice A0_2 l0_2.length c0_2,.slice A0_3 l0_3.length c0_3] 42 (0,0)) qz27):gb306≠gb307));have n6_:=Aside0.mk ((by rw [hg];exact Nat.ne_of_gt (blk_lt (g:=gb306) (o:=.cells #[.int .i64 a0_0,.slice A0_1 l0_1.length c0_1,.slice A0_2 l0_2.length c0_2,.slice A0_3 l0_3.length c0_3] 42 (0,0)) qz27):gb307≠gb306));clear BK306 HB;have BK306:=n0_;have HB:=n1_;have BK307:=n2_;have GW307:=n3_;have GE307:=n4_;have NB306_307:=n5_;have NB307_306:=n6_;clear n0_ n1_ n2_ n3_ n4_ n5_ n6_ hb hbox hg;have hnb36:=NB306_307.out;have hnc36:=NB307_306.out;have hcz37_0:w35.cell? ⟨gb306,0,none⟩=some (.int .i64 a0_0):=(blk_cell BK306.out 0).trans rfl;have hcz37_1:w35.cell? ⟨gb306,1,none⟩=some (.slice A0_1 l0_1.length c0_1):=(blk_cell BK306.out 1).trans rfl;have hcz37_2:w35.cell? ⟨gb306,2,none⟩=some (.slice A0_2 l0_2.length c0_2):=(blk_cell BK306.out 2).trans rfl;have hcz37_3:w35.cell? ⟨gb306,3,none⟩=some (.slice A0_3 l0_3.length c0_3):=(blk_cell BK306.out 3).trans rfl;have hfz37_0:=blk_frozen BK306.out 0;have hfz37_1:=blk_frozen BK306.out 1;have hfz37_2:=blk_frozen BK306.out 2;have hfz37_3:=blk_frozen BK306.out 3;have hcz38_0:w35.cell? ⟨gb307,0,none⟩=some (.int .i64 a1_0):=(blk_cell BK307.out 0).trans rfl;have hcz38_1:w35.cell? ⟨gb307,1,none⟩=some (.slice A1_1 l1_1.length c1_1):=(blk_cell BK307.out 1).trans rfl;have hcz38_2:w35.cell? ⟨gb307,2,none⟩=some (.slice A1_2 l1_2.length c1_2):=(blk_cell BK307.out 2).trans rfl;have hcz38_3:w35.cell? ⟨gb307,3,none⟩=some (.slice A1_3 l1_3.length c1_3):=(blk_cell BK307.out 3).trans rfl;have hfz38_0:=blk_frozen BK307.out 0;have hfz38_1:=blk_frozen BK307.out 1;have hfz38_2:=blk_frozen BK307.out 2;have hfz38_3:=blk_frozen BK307.out 3)|((with_reducible refine gate_callee (f:=13) rfl ?_);refine goesL_ (some 14) rfl rfl Tryd.func13 (by kernel_rfl) rfl #[.slice A0_1 l0_1.length c0_1,.slice A1_1 l1_1.length c1_1] rfl qz2 ?_;(with_reducible refine (laws_eqTrmCellS.calls k _ _ l0_1 _ _ l1_1 true _ ?side1 ?side2 ?side3 ?side4 A4.out).mono ?_);(case side1=>exact qz5);(case side2=>exact HC0_1.out);(case side3=>exact qz61);(case side4=>exact HC1_1.out);rintro e w39 ⟨rfl,hb⟩;refine ⟨_,rfl,?_⟩;have n0_:=Aside0.mk (blk_below (g:=gb306) (o:=.cells #[.int .i64 a0_0,.slice A0_1 l0_1.length c0_1,.slice A0_2 l0_2.length c0_2,.slice A0_3 l0_3.length c0_3] 42 (0,0)) qz27 hb);have n1_:=Aside0.mk (blk_below (g:=gb307) (o:=.cells #[.int .i64 a1_0,.slice A1_1 l1_1.length c1_1,.slice A1_2 l1_2.length c1_2,.slice A1_3 l1_3.length c1_3] 42 (0,0)) qz76 hb);have n2_:=Aside0.mk (below_step qz28 hb);clear BK306 BK307 HB;have BK306:=n0_;have BK307:=n1_;have HB:=n2_;clear n0_ n1_ n2_;(try clear hb);(try clear hb2);(try clear hk);(try clear hi);have hcz40_0:w39.cell? ⟨gb306,0,none⟩=some (.int .i64 a0_0):=(blk_cell BK306.out 0).trans rfl;have hcz40_1:w39.cell? ⟨gb306,1,none⟩=some (.slice A0_1 l0_1.length c0_1):=(blk_cell BK306.out 1).trans rfl;have hcz40_2:w39.cell? ⟨gb306,2,none⟩=some (.slice A0_2 l0_2.length c0_2):=(blk_cell BK306.out 2).trans rfl;have hcz40_3:w39.cell? ⟨gb306,3,none⟩=some (.slice A0_3 l0_3.length c0_3):=(blk_cell BK306.out 3).trans rfl;have hfz40_0:=blk_frozen BK306.out 0;have hfz40_1:=blk_frozen BK306.out 1;have hfz40_2:=blk_frozen BK306.out 2;have hfz40_3:=blk_frozen BK306.out 3;have hcz41_0:w39.cell? ⟨gb307,0,none⟩=some (.int .i64 a1_0):=(blk_cell BK307.out 0).trans rfl;have hcz41_1:w39.cell? ⟨gb307,1,none⟩=some (.slice A1_1 l1_1.length c1_1):=(blk_cell BK307.out 1).trans rfl;have hcz41_2:w39.cell? ⟨gb307,2,none⟩=some (.slice A1_2 l1_2.length c1_2):=(blk_cell BK307.out 2).trans rfl;have hcz41_3:w39.cell? ⟨gb307,3,none⟩=some (.slice A1_3 l1_3.length c1_3):=(blk_cell BK307.out 3).trans rfl;have hfz41_0:=blk_frozen BK307.out 0;have hfz41_1:=blk_frozen BK307.out 1;have hfz41_2:=blk_frozen BK307.out 2;have hfz41_3:=blk_frozen BK307.out 3)|((with_reducible refine gate_callee (f:=13) rfl ?_);refine goesL_ (some 20) rfl rfl Tryd.func13 (by kernel_rfl) rfl #[.slice A0_2 l0_2.length c0_2,.slice A1_2 l1_2.length c1_2] rfl qz2 ?_;(with_reducible refine (laws_eqTrmCellS.calls k _ _ l0_2 _ _ l1_2 false _ ?side1 ?side2 ?side3 ?side4 A6.out).mono ?_);(case side1=>exact qz25);(case side2=>exact HC0_2.out);(case side3=>exact qz121);(case side4=>exact HC1_2.out);rintro e w42 ⟨rfl,hb⟩;refine ⟨_,rfl,?_⟩;have n0_:=Aside0.mk (blk_below (g:=gb306) (o:=.cells #[.int .i64 a0_0,.slice A0_1 l0_1.length c0_1,.slice A0_2 l0_2.length c0_2,.slice A0_3 l0_3.length c0_3] 42 (0,0)) qz27 hb);have n1_:=Aside0.mk (blk_below (g:=gb307) (o:=.cells #[.int .i64 a1_0,.slice A1_1 l1_1.length c1_1,.slice A1_2 l1_2.length c1_2,.slice A1_3 l1_3.length c1_3] 42 (0,0)) qz76 hb);have n2_:=Aside0.mk (below_step qz28 hb);clear BK306 BK307 HB;have BK306:=n0_;have BK307:=n1_;have HB:=n2_;clear n0_ n1_ n2_;(try clear hb);(try clear hb2);(try clear hk);(try clear hi)))
    go_ret
    exact ⟨qz3,qz28⟩
  ·replace c5:=Bool.eq_false_iff.mpr c5
   subst c5
   have H1:(some false)=some r:=qz23
   clear H
   have H:=H1
   clear H1
   obtain rfl:=Option.some.inj H
   go_enter Tryd.func98,Tryd.ntmps98
   go_wp2_with (first|((with_reducible refine gate_dst (N:=2) rfl ?_);refine box_event ?hg (N:=2) ?hd (cs:=#[.int .i64 a0_0,.slice A0_1 l0_1.length c0_1,.slice A0_2 l0_2.length c0_2,.slice A0_3 l0_3.length c0_3]) (t:=42) ?hr ?_;(case hd=>rfl);(case hg=>rfl);(case hr=>first|(go_simp;done)|(go_simp;rfl));intro gb306 hg w43 hbox hb;have n0_:=Aside0.mk (below_step qz1 hb);have n1_:=Aside0.mk (hbox);have n2_:=Aside0.mk ((by rw [hg];exact (below_size qz1):w.heap.size≤gb306));have n3_:=Aside0.mk ((by rw [hg];exact (below_size qz1):w.heap.size≤gb306));clear HB;have HB:=n0_;have BK306:=n1_;have GW306:=n2_;have GE306:=n3_;clear n0_ n1_ n2_ n3_ hb hbox hg)|((with_reducible refine gate_dst (N:=3) rfl ?_);refine box_event ?hg (N:=3) ?hd (cs:=#[.int .i64 a1_0,.slice A1_1 l1_1.length c1_1,.slice A1_2 l1_2.length c1_2,.slice A1_3 l1_3.length c1_3]) (t:=42) ?hr ?_;(case hd=>rfl);(case hg=>rfl);(case hr=>first|(go_simp;done)|(go_simp;rfl));intro gb307 hg w44 hbox hb;have n0_:=Aside0.mk (blk_below (g:=gb306) (o:=.cells #[.int .i64 a0_0,.slice A0_1 l0_1.length c0_1,.slice A0_2 l0_2.length c0_2,.slice A0_3 l0_3.length c0_3] 42 (0,0)) qz27 hb);have n1_:=Aside0.mk (below_step qz30 hb);have n2_:=Aside0.mk (hbox);have n3_:=Aside0.mk ((by rw [hg];exact (below_size qz30):w.heap.size≤gb307));have n4_:=Aside0.mk ((by rw [hg];exact (below_size qz30):w.heap.size≤gb307));have n5_:=Aside0.mk ((by rw [hg];exact Nat.ne_of_lt (blk_lt (g:=gb306) (o:=.cells #[.int .i64 a0_0,.slice A0_1 l0_1.length c0_1,.slice A0_2 l0_2.length c0_2,.slice A0_3 l0_3.length c0_3] 42 (0,0)) qz27):gb306≠gb307));have n6_:=Aside0.mk ((by rw [hg];exact Nat.ne_of_gt (blk_lt (g:=gb306) (o:=.cells #[.int .i64 a0_0,.slice A0_1 l0_1.length c0_1,.slice A0_2 l0_2.length c0_2,.slice A0_3 l0_3.length c0_3] 42 (0,0)) qz27):gb307≠gb306));clear BK306 HB;have BK306:=n0_;have HB:=n1_;have BK307:=n2_;have GW307:=n3_;have GE307:=n4_;have NB306_307:=n5_;have NB307_306:=n6_;clear n0_ n1_ n2_ n3_ n4_ n5_ n6_ hb hbox hg;have hnb45:=NB306_307.out;have hnc45:=NB307_306.out;have hcz46_0:w44.cell? ⟨gb306,0,none⟩=some (.int .i64 a0_0):=(blk_cell BK306.out 0).trans rfl;have hcz46_1:w44.cell? ⟨gb306,1,none⟩=some (.slice A0_1 l0_1.length c0_1):=(blk_cell BK306.out 1).trans rfl;have hcz46_2:w44.cell? ⟨gb306,2,none⟩=some (.slice A0_2 l0_2.length c0_2):=(blk_cell BK306.out 2).trans rfl;have hcz46_3:w44.cell? ⟨gb306,3,none⟩=some (.slice A0_3 l0_3.length c0_3):=(blk_cell BK306.out 3).trans rfl;have hfz46_0:=blk_frozen BK306.out 0;have hfz46_1:=blk_frozen BK306.out 1;have hfz46_2:=blk_frozen BK306.out 2;have hfz46_3:=blk_frozen BK306.out 3;have hcz47_0:w44.cell? ⟨gb307,0,none⟩=some (.int .i64 a1_0):=(blk_cell BK307.out 0).trans rfl;have hcz47_1:w44.cell? ⟨gb307,1,none⟩=some (.slice A1_1 l1_1.length c1_1):=(blk_cell BK307.out 1).trans rfl;have hcz47_2:w44.cell? ⟨gb307,2,none⟩=some (.slice A1_2 l1_2.length c1_2):=(blk_cell BK307.out 2).trans rfl;have hcz47_3:w44.cell? ⟨gb307,3,none⟩=some (.slice A1_3 l1_3.length c1_3):=(blk_cell BK307.out 3).trans rfl;have hfz47_0:=blk_frozen BK307.out 0;have hfz47_1:=blk_frozen BK307.out 1;have hfz47_2:=blk_frozen BK307.out 2;have hfz47_3:=blk_frozen BK307.out 3)|((with_reducible refine gate_callee (f:=13) rfl ?_);refine goesL_ (some 14) rfl rfl Tryd.func13 (by kernel_rfl) rfl #[.slice A0_1 l0_1.length c0_1,.slice A1_1 l1_1.length c1_1] rfl qz2 ?_;(with_reducible refine (laws_eqTrmCellS.calls k _ _ l0_1 _ _ l1_1 false _ ?side1 ?side2 ?side3 ?side4 A4.out).mono ?_);(case side1=>exact qz5);(case side2=>exact HC0_1.out);(case side3=>exact qz61);(case side4=>exact HC1_1.out);rintro e w48 ⟨rfl,hb⟩;refine ⟨_,rfl,?_⟩;have n0_:=Aside0.mk (blk_below (g:=gb306) (o:=.cells #[.int .i64 a0_0,.slice A0_1 l0_1.length c0_1,.slice A0_2 l0_2.length c0_2,.slice A0_3 l0_3.length c0_3] 42 (0,0)) qz27 hb);have n1_:=Aside0.mk (blk_below (g:=gb307) (o:=.cells #[.int .i64 a1_0,.slice A1_1 l1_1.length c1_1,.slice A1_2 l1_2.length c1_2,.slice A1_3 l1_3.length c1_3] 42 (0,0)) qz76 hb);have n2_:=Aside0.mk (below_step qz28 hb);clear BK306 BK307 HB;have BK306:=n0_;have BK307:=n1_;have HB:=n2_;clear n0_ n1_ n2_;(try clear hb);(try clear hb2);(try clear hk);(try clear hi)))
   go_ret
   exact ⟨qz3,qz28⟩
 ·rw [if_neg c3] at H
  have c3b0:(a0_0 == a1_0)=false:=beq_eq_false_iff_ne.mpr c3
  have c3b1:(a0_0 != a1_0)=true:=bne_iff_ne.mpr c3
  obtain rfl:=Option.some.inj H
  go_enter Tryd.func98,Tryd.ntmps98
  go_wp2_with (first|((with_reducible refine gate_dst (N:=2) rfl ?_);refine box_event ?hg (N:=2) ?hd (cs:=#[.int .i64 a0_0,.slice A0_1 l0_1.length c0_1,.slice A0_2 l0_2.length c0_2,.slice A0_3 l0_3.length c0_3]) (t:=42) ?hr ?_;(case hd=>rfl);(case hg=>rfl);(case hr=>first|(go_simp;done)|(go_simp;rfl));intro gb306 hg w49 hbox hb;have n0_:=Aside0.mk (below_step qz1 hb);have n1_:=Aside0.mk (hbox);have n2_:=Aside0.mk ((by rw [hg];exact (below_size qz1):w.heap.size≤gb306));have n3_:=Aside0.mk ((by rw [hg];exact (below_size qz1):w.heap.size≤gb306));clear HB;have HB:=n0_;have BK306:=n1_;have GW306:=n2_;have GE306:=n3_;clear n0_ n1_ n2_ n3_ hb hbox hg)|((with_reducible refine gate_dst (N:=3) rfl ?_);refine box_event ?hg (N:=3) ?hd (cs:=#[.int .i64 a1_0,.slice A1_1 l1_1.length c1_1,.slice A1_2 l1_2.length c1_2,.slice A1_3 l1_3.length c1_3]) (t:=42) ?hr ?_;(case hd=>rfl);(case hg=>rfl);(case hr=>first|(go_simp;done)|(go_simp;rfl));intro gb307 hg w50 hbox hb;have n0_:=Aside0.mk (blk_below (g:=gb306) (o:=.cells #[.int .i64 a0_0,.slice A0_1 l0_1.length c0_1,.slice A0_2 l0_2.length c0_2,.slice A0_3 l0_3.length c0_3] 42 (0,0)) qz27 hb);have n1_:=Aside0.mk (below_step qz30 hb);have n2_:=Aside0.mk (hbox);have n3_:=Aside0.mk ((by rw [hg];exact (below_size qz30):w.heap.size≤gb307));have n4_:=Aside0.mk ((by rw [hg];exact (below_size qz30):w.heap.size≤gb307));have n5_:=Aside0.mk ((by rw [hg];exact Nat.ne_of_lt (blk_lt (g:=gb306) (o:=.cells #[.int .i64 a0_0,.slice A0_1 l0_1.length c0_1,.slice A0_2 l0_2.length c0_2,.slice A0_3 l0_3.length c0_3] 42 (0,0)) qz27):gb306≠gb307));have n6_:=Aside0.mk ((by rw [hg];exact Nat.ne_of_gt (blk_lt (g:=gb306) (o:=.cells #[.int .i64 a0_0,.slice A0_1 l0_1.length c0_1,.slice A0_2 l0_2.length c0_2,.slice A0_3 l0_3.length c0_3] 42 (0,0)) qz27):gb307≠gb306));clear BK306 HB;have BK306:=n0_;have HB:=n1_;have BK307:=n2_;have GW307:=n3_;have GE307:=n4_;have NB306_307:=n5_;have NB307_306:=n6_;clear n0_ n1_ n2_ n3_ n4_ n5_ n6_ hb hbox hg;have hnb51:=NB306_307.out;have hnc51:=NB307_306.out;have hcz52_0:w50.cell? ⟨gb306,0,none⟩=some (.int .i64 a0_0):=(blk_cell BK306.out 0).trans rfl;have hcz52_1:w50.cell? ⟨gb306,1,none⟩=some (.slice A0_1 l0_1.length c0_1):=(blk_cell BK306.out 1).trans rfl;have hcz52_2:w50.cell? ⟨gb306,2,none⟩=some (.slice A0_2 l0_2.length c0_2):=(blk_cell BK306.out 2).trans rfl;have hcz52_3:w50.cell? ⟨gb306,3,none⟩=some (.slice A0_3 l0_3.length c0_3):=(blk_cell BK306.out 3).trans rfl;have hfz52_0:=blk_frozen BK306.out 0;have hfz52_1:=blk_frozen BK306.out 1;have hfz52_2:=blk_frozen BK306.out 2;have hfz52_3:=blk_frozen BK306.out 3;have hcz53_0:w50.cell? ⟨gb307,0,none⟩=some (.int .i64 a1_0):=(blk_cell BK307.out 0).trans rfl;have hcz53_1:w50.cell? ⟨gb307,1,none⟩=some (.slice A1_1 l1_1.length c1_1):=(blk_cell BK307.out 1).trans rfl;have hcz53_2:w50.cell? ⟨gb307,2,none⟩=some (.slice A1_2 l1_2.length c1_2):=(blk_cell BK307.out 2).trans rfl;have hcz53_3:w50.cell? ⟨gb307,3,none⟩=some (.slice A1_3 l1_3.length c1_3):=(blk_cell BK307.out 3).trans rfl;have hfz53_0:=blk_frozen BK307.out 0;have hfz53_1:=blk_frozen BK307.out 1;have hfz53_2:=blk_frozen BK307.out 2;have hfz53_3:=blk_frozen BK307.out 3))
  go_ret
  exact ⟨qz3,qz28⟩

end Go.Proofs.YtepkgjcobocbpaaDoor.P
