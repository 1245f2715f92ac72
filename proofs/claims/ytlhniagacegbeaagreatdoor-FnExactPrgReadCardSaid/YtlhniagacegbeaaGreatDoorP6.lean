/- Contracts of functions of the program: each as a Lean function, and that its call does what that says; printed by cprint.py (this session) over print.py of the kit. Conditions: the hypotheses of each theorem. -/
import Derived.Test.YtlhniagacegbeaaGreatDoorVZ
import Derived.Test.YtlhniagacegbeaaGreatDoorP0
import Derived.Test.YtlhniagacegbeaaGreatDoorP5
namespace Go.Proofs.YtlhniagacegbeaaGreatDoor.P
open Go.RowKit Go.Proofs.YtlhniagacegbeaaGreatDoorW.PrintWords Go.Proofs.YtlhniagacegbeaaGreatDoorW.PrintLast Go.Proofs.YtlhniagacegbeaaGreatDoorW.PrintMore
attribute [local go_sem] max2_int min2_int max_two min_two max_three min_three max_four min_four   -- for this text's walks alone
set_option linter.unusedVariables false
set_option linter.unusedSimpArgs false

/-! ### laws_eqTrmCell: function 54 -/
def laws_eqTrmCell.f (a0_0:Int) (a0_1:Int) (a0_2:ByteArray) (a1_0:Int) (a1_1:Int) (a1_2:ByteArray):Option (Bool):=if a0_0=a1_0 then (if a0_1=a1_1 then (if a0_2.toList=a1_2.toList then (some true) else (some false)) else (some false)) else (some false)
set_option maxHeartbeats 8000000 in
set_option maxRecDepth 100000 in
theorem laws_eqTrmCell.calls (a0_0:Int) (a0_1:Int) (a0_2:ByteArray) (a1_0:Int) (a1_1:Int) (a1_2:ByteArray) (r:Bool) (w:World) (h:laws_eqTrmCell.f a0_0 a0_1 a0_2 a1_0 a1_1 a1_2=some r) :
  Calls Tryz.prog 54 #[.agg #[.int .i64 a0_0,.int .i64 a0_1,.string a0_2],.agg #[.int .i64 a1_0,.int .i64 a1_1,.string a1_2]] w fun e w'=>e = .returned (.bool r)∧Below w.heap.size w w':=by
 have hu63:=Tryz.underlying63;have HB:=Aside0.mk (Below.refl w.heap.size w);have H:(if a0_0=a1_0 then (if a0_1=a1_1 then (if a0_2.toList=a1_2.toList then (some true) else (some false)) else (some false)) else (some false))=some r:=h;clear h;have HC3:=Aside0.mk H;clear H;go_enter Tryz.func54,Tryz.ntmps54;go_upto_if 9 with (first|((with_reducible refine gate_dst (N:=2) rfl ?_);refine box_event ?hg (N:=2) ?hd (cs:=#[.int .i64 a0_0,.int .i64 a0_1,.string a0_2]) (t:=63) ?hr ?_;(case hd=>rfl);(case hg=>rfl);(case hr=>first|(go_simp;done)|(go_simp;rfl));intro gb358 hg w4 hbox hb;have n_:=as3 (below_step qz3 hb) (hbox) ((by rw [hg];exact (below_size qz3):w.heap.size≤gb358));clear HB;obtain ⟨HB,BK358,GE358⟩:=n_;clear hb hbox hg)|((with_reducible refine gate_dst (N:=3) rfl ?_);refine box_event ?hg (N:=3) ?hd (cs:=#[.int .i64 a1_0,.int .i64 a1_1,.string a1_2]) (t:=63) ?hr ?_;(case hd=>rfl);(case hg=>rfl);(case hr=>first|(go_simp;done)|(go_simp;rfl));intro gb359 hg w5 hbox hb;have n_:=as6 (blk_below (blkp BK358.out) hb) (below_step qz67 hb) (hbox) ((by rw [hg];exact (below_size qz67):w.heap.size≤gb359)) ((by rw [hg];exact Nat.ne_of_lt (blk_lt (blkp BK358.out)):gb358≠gb359)) ((by rw [hg];exact Nat.ne_of_gt (blk_lt (blkp BK358.out)):gb359≠gb358));clear BK358 HB;obtain ⟨BK358,HB,BK359,GE359,NB358_359,NB359_358⟩:=n_;clear hb hbox hg;have hnb6:=NB358_359.out;have hnc6:=NB359_358.out;obtain ⟨hcz7_0,hcz7_1,hcz7_2,hfz7_0,hfz7_1,hfz7_2⟩:=blk3 BK358.out;obtain ⟨hcz8_0,hcz8_1,hcz8_2,hfz8_0,hfz8_1,hfz8_2⟩:=blk3 BK359.out))
 (try simp only [Act.put,sA_,sZ_,sS_]);have H:=HC3.out;clear HC3;by_cases c9:a0_0=a1_0
 ·rw [if_pos c9] at H
  have c9b0:(a0_0 == a1_0)=true:=beq_iff_eq.mpr c9;have c9b1:(a0_0 != a1_0)=false:=bne_eq_false_iff_eq.mpr c9;clear c9;(first|rw [c9b0]|rw [c9b1]|(simp only [i64_w,i32_w];rw [c9b0])|skip);by_cases c10:a0_1=a1_1
  ·rw [if_pos c10] at H
   have c10b0:(a0_1 == a1_1)=true:=beq_iff_eq.mpr c10;have c10b1:(a0_1 != a1_1)=false:=bne_eq_false_iff_eq.mpr c10;clear c10;by_cases c11:a0_2.toList=a1_2.toList
   ·rw [if_pos c11] at H
    have c11b0:(a0_2.toList == a1_2.toList)=true:=beq_iff_eq.mpr c11;have c11b1:(a0_2.toList != a1_2.toList)=false:=bne_eq_false_iff_eq.mpr c11;clear c11;obtain rfl:=Option.some.inj H;have hnb12:=NB358_359.out;have hnc12:=NB359_358.out;obtain ⟨hcz13_0,hcz13_1,hcz13_2,hfz13_0,hfz13_1,hfz13_2⟩:=blk3 BK358.out;obtain ⟨hcz14_0,hcz14_1,hcz14_2,hfz14_0,hfz14_1,hfz14_2⟩:=blk3 BK359.out;go_wp2;go_ret;exact ⟨qz2,qz43⟩
   ·rw [if_neg c11] at H
    have c11b0:(a0_2.toList == a1_2.toList)=false:=beq_eq_false_iff_ne.mpr c11;have c11b1:(a0_2.toList != a1_2.toList)=true:=bne_iff_ne.mpr c11;obtain rfl:=Option.some.inj H;have hnb15:=NB358_359.out;have hnc15:=NB359_358.out;obtain ⟨hcz16_0,hcz16_1,hcz16_2,hfz16_0,hfz16_1,hfz16_2⟩:=blk3 BK358.out;obtain ⟨hcz17_0,hcz17_1,hcz17_2,hfz17_0,hfz17_1,hfz17_2⟩:=blk3 BK359.out;go_wp2;go_ret;exact ⟨qz2,qz43⟩
  ·rw [if_neg c10] at H
   have c10b0:(a0_1 == a1_1)=false:=beq_eq_false_iff_ne.mpr c10;have c10b1:(a0_1 != a1_1)=true:=bne_iff_ne.mpr c10;obtain rfl:=Option.some.inj H;have hnb18:=NB358_359.out;have hnc18:=NB359_358.out;obtain ⟨hcz19_0,hcz19_1,hcz19_2,hfz19_0,hfz19_1,hfz19_2⟩:=blk3 BK358.out;obtain ⟨hcz20_0,hcz20_1,hcz20_2,hfz20_0,hfz20_1,hfz20_2⟩:=blk3 BK359.out;go_wp2;go_ret;exact ⟨qz2,qz43⟩
 ·rw [if_neg c9] at H
  have c9b0:(a0_0 == a1_0)=false:=beq_eq_false_iff_ne.mpr c9;have c9b1:(a0_0 != a1_0)=true:=bne_iff_ne.mpr c9;(first|rw [c9b0]|rw [c9b1]|(simp only [i64_w,i32_w];rw [c9b0])|skip);obtain rfl:=Option.some.inj H;go_wp2;go_ret;exact ⟨qz2,qz43⟩

/-! ### laws_eqTrmCellS: function 28 -/
def laws_eqTrmCellS.l0:Nat→List (S63)→List (S63)→Int→Option (Bool)
 | 0,_,_,_=>none
 | k+1,x0,x1,x5=>if x5<(x0.length:Int) then (if 0≤x5 then (if x5<(x1.length:Int) then ((laws_eqTrmCell.f ((rd_T63 x0 x5).f0) ((rd_T63 x0 x5).f1) ((rd_T63 x0 x5).f2) ((rd_T63 x1 x5).f0) ((rd_T63 x1 x5).f1) ((rd_T63 x1 x5).f2)).bind fun t362=>(if t362=true then (laws_eqTrmCellS.l0 k x0 x1 (wrap64 (x5+1))) else (some false))) else (none)) else (none)) else (some true)
def laws_eqTrmCellS.f (k:Nat) (l0:List (S63)) (l1:List (S63)):Option (Bool):=if (l0.length:Int)=(l1.length:Int) then (laws_eqTrmCellS.l0 k l0 l1 0) else (some false)
def laws_eqTrmCellS.T6:Bool × List (List Nat × List Nat):=(true,[([],[]),([],[]),([0,1],[0,1]),([2],[2]),([],[]),([],[]),([4,5],[4,5]),([6],[6]),([3,7],[3,7]),([8],[8])])
def laws_eqTrmCellS.B6:List Nat:=[0,0,3,7,0,0,48,112,255,511]
theorem laws_eqTrmCellS.tab6:rtab .any (opsOf Tryz.f28 6)=laws_eqTrmCellS.T6:=by kernel_rfl
theorem laws_eqTrmCellS.bits6:waitsOk laws_eqTrmCellS.T6.2 laws_eqTrmCellS.B6=true:=by kernel_rfl
set_option maxHeartbeats 8000000 in
set_option maxRecDepth 100000 in
theorem laws_eqTrmCellS.calls (k:Nat) (A0:Option Addr) (c0:Nat) (l0:List (S63)) (A1:Option Addr) (c1:Nat) (l1:List (S63)) (r:Bool) (w:World) (hr0:Kd.C k63 w A0 l0.length l0) (hc0:l0.length≤c0) (hr1:Kd.C k63 w A1 l1.length l1) (hc1:l1.length≤c1) (h:laws_eqTrmCellS.f k l0 l1=some r) :
  Calls Tryz.prog 28 #[.slice A0 l0.length c0,.slice A1 l1.length c1] w fun e w'=>e = .returned (.bool r)∧Below w.heap.size w w':=by
 have hu63:=Tryz.underlying63;have HR0:=Aside0.mk hr0;have HC0:=Aside0.mk hc0;clear hr0 hc0;have HR1:=Aside0.mk hr1;have HC1:=Aside0.mk hc1;clear hr1 hc1;have HB:=Aside0.mk (Below.refl w.heap.size w);have H:(if (l0.length:Int)=(l1.length:Int) then (laws_eqTrmCellS.l0 k l0 l1 0) else (some false))=some r:=h;clear h;by_cases c3:(l0.length:Int)=(l1.length:Int)
 ·rw [if_pos c3] at H
  have c3b0:((l0.length:Int) == (l1.length:Int))=true:=beq_iff_eq.mpr c3;have c3b1:((l0.length:Int) != (l1.length:Int))=false:=bne_eq_false_iff_eq.mpr c3;have c3b2:(l0.length == l1.length)=true:=qz73;clear c3;have H':=Aside0.mk H;clear H;go_enter Tryz.func28,Tryz.ntmps28;go_wp2
  go_loopg [5] k (fun kq v5 w'=>∃ (x5_1:Int),v5 = .int .i64 x5_1∧Aside0 (laws_eqTrmCellS.l0 kq l0 l1 x5_1=some r)∧Aside0 (kq≤k)∧Aside0 (Below w.heap.size w w'))
  case atStart=>exact ⟨(0),qz5,H',⟨Nat.le_refl _⟩,⟨qz1⟩⟩
  case round=>
   clear H';(try clear c1);(try clear c3);(try clear c3b0);(try clear c3b1);(try clear c3b2);obtain ⟨x5_1,rfl,HA,HK1,HB⟩:=hrel;cases gk with
   | zero=>exact absurd HA.out (by simp [laws_eqTrmCellS.l0])
   | succ k1=>
    have H:=HA.out;clear HA;simp only [laws_eqTrmCellS.l0] at H;by_cases c4:x5_1<(l0.length:Int)
    ·rw [if_pos c4] at H
     have c4b0:decide (x5_1<(l0.length:Int))=true:=decide_eq_true c4;clear c4;by_cases c5:0≤x5_1
     ·rw [if_pos c5] at H
      have c5b0:decide (0≤x5_1)=true:=decide_eq_true c5;clear c5;by_cases c6:x5_1<(l1.length:Int)
      ·rw [if_pos c6] at H
       have c6b0:decide (x5_1<(l1.length:Int))=true:=decide_eq_true c6;clear c6;replace H:=Option.bind_eq_some_iff.mp H;obtain ⟨t362,A70,H⟩:=H;(try dsimp only at H);have A7:=Aside0.mk A70;clear A70;have HC8:=Aside0.mk H;clear H;(try go_wp2);have n0_:=Aside0.mk (below_drew1 HB.out);clear HB;have HB:=n0_;clear n0_;have p360:0≤(x5_1:Int):=of_decide_eq_true qz4;have q360:x5_1<(l0.length:Int):=of_decide_eq_true qz4;obtain ⟨ad360,e360,hx360_0,hx360_1,hx360_2⟩:=at_T63 HR0.out x5_1 p360 q360;have hw360_2:=hx360_2;have hw360_1:=hx360_1;have hw360_0:=hx360_0;cases e360
       replace hx360_0:=(HB.out.cell (World.block_lt_of_cell? w _ hx360_0)).trans hx360_0;replace hx360_1:=(HB.out.cell (World.block_lt_of_cell? w _ hx360_1)).trans hx360_1;replace hx360_2:=(HB.out.cell (World.block_lt_of_cell? w _ hx360_2)).trans hx360_2;replace p360:=eq_true p360;replace q360:=eq_true q360;have p361:0≤(x5_1:Int):=of_decide_eq_true qz4;have q361:x5_1<(l1.length:Int):=of_decide_eq_true qz4;obtain ⟨ad361,e361,hx361_0,hx361_1,hx361_2⟩:=at_T63 HR1.out x5_1 p361 q361;have hw361_2:=hx361_2;have hw361_1:=hx361_1;have hw361_0:=hx361_0;cases e361
       replace hx361_0:=(HB.out.cell (World.block_lt_of_cell? w _ hx361_0)).trans hx361_0;replace hx361_1:=(HB.out.cell (World.block_lt_of_cell? w _ hx361_1)).trans hx361_1;replace hx361_2:=(HB.out.cell (World.block_lt_of_cell? w _ hx361_2)).trans hx361_2;replace p361:=eq_true p361;replace q361:=eq_true q361;refine start_ (n:=10) (S:=fun w'=>w'.cell? (ad360.add ((x5_1).toNat * 3))=some (.int .i64 ((rd_T63 l0 x5_1).f0))∧w'.cell? ⟨(ad360.add ((x5_1).toNat * 3)).block,(ad360.add ((x5_1).toNat * 3)).off+1,none⟩=some (.int .i64 ((rd_T63 l0 x5_1).f1))∧w'.cell? ⟨(ad360.add ((x5_1).toNat * 3)).block,(ad360.add ((x5_1).toNat * 3)).off+2,none⟩=some (.string ((rd_T63 l0 x5_1).f2))∧w'.cell? (ad361.add ((x5_1).toNat * 3))=some (.int .i64 ((rd_T63 l1 x5_1).f0))∧w'.cell? ⟨(ad361.add ((x5_1).toNat * 3)).block,(ad361.add ((x5_1).toNat * 3)).off+1,none⟩=some (.int .i64 ((rd_T63 l1 x5_1).f1))∧w'.cell? ⟨(ad361.add ((x5_1).toNat * 3)).block,(ad361.add ((x5_1).toNat * 3)).off+2,none⟩=some (.string ((rd_T63 l1 x5_1).f2))) (ds:=[]) #[false,false,false,false,false,false,false,false,false,false] (by kernel_rfl) rfl rfl ⟨((HB.out.cell (World.block_lt_of_cell? w _ hw360_0)).trans hw360_0),((HB.out.cell (World.block_lt_of_cell? w _ hw360_1)).trans hw360_1),((HB.out.cell (World.block_lt_of_cell? w _ hw360_2)).trans hw360_2),((HB.out.cell (World.block_lt_of_cell? w _ hw361_0)).trans hw361_0),((HB.out.cell (World.block_lt_of_cell? w _ hw361_1)).trans hw361_1),((HB.out.cell (World.block_lt_of_cell? w _ hw361_2)).trans hw361_2)⟩ (fun hHeld=>?_);refine with_tabW laws_eqTrmCellS.tab6 laws_eqTrmCellS.bits6 (fun HT_ HW_=>?_)
       generalize wr.drew=w9 at HB hx360_0 hx360_1 hx360_2 hx361_0 hx361_1 hx361_2 hHeld ⊢
       refine pure_ (i:=0) (N:=some 17) (v:=?_) (a':=?_) #[true,false,false,false,false,false,false,false,false,false] rfl rfl (any_of HT_.out (by kernel_rfl)) (fun _ _ _ h=>h) (Or.inl ⟨by rfl,?_⟩) ?_ ?_;rotate_left
       ·intro w'
        go_simp;with_reducible rfl
       rotate_left
       ·simp only [Act.put,sA_,sZ_,sS_,i64_w,i32_w]
        rfl
       refine pure_ (i:=1) (N:=some 18) (v:=?_) (a':=?_) #[true,true,false,false,false,false,false,false,false,false] rfl rfl (any_of HT_.out (by kernel_rfl)) (fun _ _ _ h=>h) (Or.inl ⟨by rfl,?_⟩) ?_ ?_;rotate_left
       ·intro w'
        go_simp;with_reducible rfl
       rotate_left
       ·simp only [Act.put,sA_,sZ_,sS_,i64_w,i32_w]
        rfl
       refine pure_ (i:=2) (N:=some 19) (v:=?_) (a':=?_) #[true,true,true,false,false,false,false,false,false,false] rfl rfl (any_of HT_.out (by kernel_rfl)) (fun _ _ _ h=>h) (Or.inl ⟨by rfl,?_⟩) ?_ ?_;rotate_left
       ·intro w'
        go_simp;with_reducible rfl
       rotate_left
       ·simp only [Act.put,sA_,sZ_,sS_,i64_w,i32_w]
        rfl
       refine pure_ (i:=4) (N:=some 21) (v:=?_) (a':=?_) #[true,true,true,false,true,false,false,false,false,false] rfl rfl (any_of HT_.out (by kernel_rfl)) (fun _ _ _ h=>h) (Or.inl ⟨by rfl,?_⟩) ?_ ?_;rotate_left
       ·intro w'
        go_simp;with_reducible rfl
       rotate_left
       ·simp only [Act.put,sA_,sZ_,sS_,i64_w,i32_w]
        rfl
       refine pure_ (i:=5) (N:=some 22) (v:=?_) (a':=?_) #[true,true,true,false,true,true,false,false,false,false] rfl rfl (any_of HT_.out (by kernel_rfl)) (fun _ _ _ h=>h) (Or.inl ⟨by rfl,?_⟩) ?_ ?_;rotate_left
       ·intro w'
        go_simp;with_reducible rfl
       rotate_left
       ·simp only [Act.put,sA_,sZ_,sS_,i64_w,i32_w]
        rfl
       refine pure_ (i:=6) (N:=some 23) (v:=?_) (a':=?_) #[true,true,true,false,true,true,true,false,false,false] rfl rfl (any_of HT_.out (by kernel_rfl)) (fun _ _ _ h=>h) (Or.inl ⟨by rfl,?_⟩) ?_ ?_;rotate_left
       ·intro w'
        go_simp;with_reducible rfl
       rotate_left
       ·simp only [Act.put,sA_,sZ_,sS_,i64_w,i32_w]
        rfl
       refine take_ (i:=3) (N:=some 20) (v:=?_) (a':=?_) #[true,true,true,true,true,true,true,false,false,false] rfl rfl (take_ofW HT_.out HW_.out (by kernel_rfl)) (fun _ _ _ h=>h) (Or.inl ⟨by rfl,?_⟩) hHeld ?_ ?_;rotate_left
       ·rintro w' ⟨s0,s1,s2,s3,s4,s5⟩
        go_simp;with_reducible rfl
       rotate_left
       ·simp only [Act.put,sA_,sZ_,sS_,i64_w,i32_w]
        rfl
       refine take_ (i:=7) (N:=some 24) (v:=?_) (a':=?_) #[true,true,true,true,true,true,true,true,false,false] rfl rfl (take_ofW HT_.out HW_.out (by kernel_rfl)) (fun _ _ _ h=>h) (Or.inl ⟨by rfl,?_⟩) hHeld ?_ ?_;rotate_left
       ·rintro w' ⟨s0,s1,s2,s3,s4,s5⟩
        go_simp;with_reducible rfl
       rotate_left
       ·simp only [Act.put,sA_,sZ_,sS_,i64_w,i32_w]
        rfl
       refine one_ (i:=8) (N:=some 25) #[true,true,true,true,true,true,true,true,true,false] rfl rfl (one_of HT_.out (by kernel_rfl)) (by decide) (fun K hK=>?_);refine goes_ Tryz.func54 (by kernel_rfl) rfl #[.agg #[.int .i64 ((rd_T63 l0 x5_1).f0),.int .i64 ((rd_T63 l0 x5_1).f1),.string ((rd_T63 l0 x5_1).f2)],.agg #[.int .i64 ((rd_T63 l1 x5_1).f0),.int .i64 ((rd_T63 l1 x5_1).f1),.string ((rd_T63 l1 x5_1).f2)]] (by rfl) rfl rfl qz22 ?_;(with_reducible refine (laws_eqTrmCell.calls ((rd_T63 l0 x5_1).f0) ((rd_T63 l0 x5_1).f1) ((rd_T63 l0 x5_1).f2) ((rd_T63 l1 x5_1).f0) ((rd_T63 l1 x5_1).f1) ((rd_T63 l1 x5_1).f2) t362 _ A7.out).mono ?_);rintro e w10 ⟨rfl,hb⟩;refine ⟨_,rfl,?_⟩;have n0_:=Aside0.mk (below_step qz3 hb);clear HB;have HB:=n0_;clear n0_;(try clear hb);(try clear hb2);(try clear hk);(try clear hi);refine hK.out _ _ ⟨((HB.out.cell (World.block_lt_of_cell? w _ hw360_0)).trans hw360_0),((HB.out.cell (World.block_lt_of_cell? w _ hw360_1)).trans hw360_1),((HB.out.cell (World.block_lt_of_cell? w _ hw360_2)).trans hw360_2),((HB.out.cell (World.block_lt_of_cell? w _ hw361_0)).trans hw361_0),((HB.out.cell (World.block_lt_of_cell? w _ hw361_1)).trans hw361_1),((HB.out.cell (World.block_lt_of_cell? w _ hw361_2)).trans hw361_2)⟩ (fun hHeld=>?_);clear hK K;refine norm_ (a':=?_) ?_ ?_;rotate_left
       ·show Act.put _ (some 25) _=_
        simp only [Act.put,sA_,sZ_,sS_,i64_w,i32_w];rfl
       refine pure_ (i:=9) (N:=some 26) (v:=?_) (a':=?_) #[true,true,true,true,true,true,true,true,true,true] rfl rfl (any_of HT_.out (by kernel_rfl)) (fun _ _ _ h=>h) (Or.inl ⟨by rfl,?_⟩) ?_ ?_;rotate_left
       ·intro w'
        go_simp;with_reducible rfl
       rotate_left
       ·simp only [Act.put,sA_,sZ_,sS_,i64_w,i32_w]
        rfl
       refine done_ (done_of HT_.out (by kernel_rfl)) ?_;go_upto_if 26 with (fail)
       have H:=HC8.out;clear HC8;by_cases c11:t362=true
       ·subst c11
        have H1:(laws_eqTrmCellS.l0 k1 l0 l1 (wrap64 (x5_1+1)))=some r:=qz26;clear H;have H:=H1;clear H1;have H':=Aside0.mk H;clear H;go_wp2;go_roundg k1
        case measure=>have:=HK1.out;omega
        case rel=>exact ⟨(wrap64 (x5_1+1)),qz5,H',⟨by have:=HK1.out;omega⟩,⟨qz1⟩⟩
       ·replace c11:=Bool.eq_false_iff.mpr c11
        subst c11;have H1:(some false)=some r:=qz15;clear H;have H:=H1;clear H1;obtain rfl:=Option.some.inj H;go_wp2;go_ret;exact ⟨qz2,qz1⟩
      ·rw [if_neg c6] at H
       exact absurd H (by simp)
     ·rw [if_neg c5] at H
      exact absurd H (by simp)
    ·rw [if_neg c4] at H
     have c4b0:decide (x5_1<(l0.length:Int))=false:=decide_eq_false c4;clear c4;obtain rfl:=Option.some.inj H;go_wp2;go_ret;exact ⟨qz2,qz1⟩
 ·rw [if_neg c3] at H
  have c3b0:((l0.length:Int) == (l1.length:Int))=false:=beq_eq_false_iff_ne.mpr c3;have c3b1:((l0.length:Int) != (l1.length:Int))=true:=bne_iff_ne.mpr c3;have c3b2:(l0.length == l1.length)=false:=qz73;obtain rfl:=Option.some.inj H;go_enter Tryz.func28,Tryz.ntmps28;go_wp2;go_ret;exact ⟨qz2,qz1⟩

/-! ### laws_eqPrgGoal: function 8 -/
def laws_eqPrgGoal.f (k:Nat) (a0_0:Int) (l0_1:List (S63)) (l0_2:List (S63)) (l0_3:List (S63)) (a1_0:Int) (l1_1:List (S63)) (l1_2:List (S63)) (l1_3:List (S63)):Option (Bool):=if a0_0=a1_0 then ((laws_eqTrmCellS.f k l0_1 l1_1).bind fun t365=>(if t365=true then ((laws_eqTrmCellS.f k l0_2 l1_2).bind fun t366=>(if t366=true then ((laws_eqTrmCellS.f k l0_3 l1_3).bind fun t367=>(if t367=true then (some true) else (some false))) else (some false))) else (some false))) else (some false)
set_option maxHeartbeats 8000000 in
set_option maxRecDepth 100000 in
theorem laws_eqPrgGoal.calls (k:Nat) (a0_0:Int) (A0_1:Option Addr) (c0_1:Nat) (l0_1:List (S63)) (A0_2:Option Addr) (c0_2:Nat) (l0_2:List (S63)) (A0_3:Option Addr) (c0_3:Nat) (l0_3:List (S63)) (a1_0:Int) (A1_1:Option Addr) (c1_1:Nat) (l1_1:List (S63)) (A1_2:Option Addr) (c1_2:Nat) (l1_2:List (S63)) (A1_3:Option Addr) (c1_3:Nat) (l1_3:List (S63)) (r:Bool) (w:World) (hr0_1:Kd.C k63 w A0_1 l0_1.length l0_1) (hc0_1:l0_1.length≤c0_1) (hr0_2:Kd.C k63 w A0_2 l0_2.length l0_2) (hc0_2:l0_2.length≤c0_2) (hr0_3:Kd.C k63 w A0_3 l0_3.length l0_3) (hc0_3:l0_3.length≤c0_3) (hr1_1:Kd.C k63 w A1_1 l1_1.length l1_1) (hc1_1:l1_1.length≤c1_1) (hr1_2:Kd.C k63 w A1_2 l1_2.length l1_2) (hc1_2:l1_2.length≤c1_2) (hr1_3:Kd.C k63 w A1_3 l1_3.length l1_3) (hc1_3:l1_3.length≤c1_3) (h:laws_eqPrgGoal.f k a0_0 l0_1 l0_2 l0_3 a1_0 l1_1 l1_2 l1_3=some r) :
  Calls Tryz.prog 8 #[.agg #[.int .i64 a0_0,.slice A0_1 l0_1.length c0_1,.slice A0_2 l0_2.length c0_2,.slice A0_3 l0_3.length c0_3],.agg #[.int .i64 a1_0,.slice A1_1 l1_1.length c1_1,.slice A1_2 l1_2.length c1_2,.slice A1_3 l1_3.length c1_3]] w fun e w'=>e = .returned (.bool r)∧Below w.heap.size w w':=by
 have hu24:=Tryz.underlying24;have HR0_1:=Aside0.mk hr0_1;have HC0_1:=Aside0.mk hc0_1;clear hr0_1 hc0_1;have HR0_2:=Aside0.mk hr0_2;have HC0_2:=Aside0.mk hc0_2;clear hr0_2 hc0_2;have HR0_3:=Aside0.mk hr0_3;have HC0_3:=Aside0.mk hc0_3;clear hr0_3 hc0_3;have HR1_1:=Aside0.mk hr1_1;have HC1_1:=Aside0.mk hc1_1;clear hr1_1 hc1_1;have HR1_2:=Aside0.mk hr1_2;have HC1_2:=Aside0.mk hc1_2;clear hr1_2 hc1_2;have HR1_3:=Aside0.mk hr1_3;have HC1_3:=Aside0.mk hc1_3;clear hr1_3 hc1_3;have HB:=Aside0.mk (Below.refl w.heap.size w);have H:(if a0_0=a1_0 then ((laws_eqTrmCellS.f k l0_1 l1_1).bind fun t365=>(if t365=true then ((laws_eqTrmCellS.f k l0_2 l1_2).bind fun t366=>(if t366=true then ((laws_eqTrmCellS.f k l0_3 l1_3).bind fun t367=>(if t367=true then (some true) else (some false))) else (some false))) else (some false))) else (some false))=some r:=h;clear h;have HC3:=Aside0.mk H;clear H;go_enter Tryz.func8,Tryz.ntmps8;go_upto_if 9 with (first|((with_reducible refine gate_dst (N:=2) rfl ?_);refine box_event ?hg (N:=2) ?hd (cs:=#[.int .i64 a0_0,.slice A0_1 l0_1.length c0_1,.slice A0_2 l0_2.length c0_2,.slice A0_3 l0_3.length c0_3]) (t:=24) ?hr ?_;(case hd=>rfl);(case hg=>rfl);(case hr=>first|(go_simp;done)|(go_simp;rfl));intro gb363 hg w4 hbox hb;have n_:=as3 (below_step qz3 hb) (hbox) ((by rw [hg];exact (below_size qz3):w.heap.size≤gb363));clear HB;obtain ⟨HB,BK363,GE363⟩:=n_;clear hb hbox hg)|((with_reducible refine gate_dst (N:=3) rfl ?_);refine box_event ?hg (N:=3) ?hd (cs:=#[.int .i64 a1_0,.slice A1_1 l1_1.length c1_1,.slice A1_2 l1_2.length c1_2,.slice A1_3 l1_3.length c1_3]) (t:=24) ?hr ?_;(case hd=>rfl);(case hg=>rfl);(case hr=>first|(go_simp;done)|(go_simp;rfl));intro gb364 hg w5 hbox hb;have n_:=as6 (blk_below (blkp BK363.out) hb) (below_step qz66 hb) (hbox) ((by rw [hg];exact (below_size qz66):w.heap.size≤gb364)) ((by rw [hg];exact Nat.ne_of_lt (blk_lt (blkp BK363.out)):gb363≠gb364)) ((by rw [hg];exact Nat.ne_of_gt (blk_lt (blkp BK363.out)):gb364≠gb363));clear BK363 HB;obtain ⟨BK363,HB,BK364,GE364,NB363_364,NB364_363⟩:=n_;clear hb hbox hg;have hnb6:=NB363_364.out;have hnc6:=NB364_363.out;obtain ⟨hcz7_0,hcz7_1,hcz7_2,hcz7_3,hfz7_0,hfz7_1,hfz7_2,hfz7_3⟩:=blk4 BK363.out;obtain ⟨hcz8_0,hcz8_1,hcz8_2,hcz8_3,hfz8_0,hfz8_1,hfz8_2,hfz8_3⟩:=blk4 BK364.out))
 (try simp only [Act.put,sA_,sZ_,sS_]);have H:=HC3.out;clear HC3;by_cases c9:a0_0=a1_0
 ·rw [if_pos c9] at H
  have c9b0:(a0_0 == a1_0)=true:=beq_iff_eq.mpr c9;have c9b1:(a0_0 != a1_0)=false:=bne_eq_false_iff_eq.mpr c9;clear c9;(first|rw [c9b0]|rw [c9b1]|(simp only [i64_w,i32_w];rw [c9b0])|skip);replace H:=Option.bind_eq_some_iff.mp H;obtain ⟨t365,A100,H⟩:=H;(try dsimp only at H);have A10:=Aside0.mk A100;clear A100;have HC11:=Aside0.mk H;clear H;have hnb12:=NB363_364.out;have hnc12:=NB364_363.out;obtain ⟨hcz13_0,hcz13_1,hcz13_2,hcz13_3,hfz13_0,hfz13_1,hfz13_2,hfz13_3⟩:=blk4 BK363.out;obtain ⟨hcz14_0,hcz14_1,hcz14_2,hcz14_3,hfz14_0,hfz14_1,hfz14_2,hfz14_3⟩:=blk4 BK364.out;go_upto_if 15 with (first|(go_at_call 28;(with_reducible refine (laws_eqTrmCellS.calls k _ _ l0_1 _ _ l1_1 t365 _ ?side1 ?side2 ?side3 ?side4 A10.out).mono ?_);(case side1=>exact qz8);(case side2=>exact HC0_1.out);(case side3=>exact qz62);(case side4=>exact HC1_1.out);rintro e w15 ⟨rfl,hb⟩;have n_:=as3 (blk_below (blkp BK363.out) hb) (blk_below (blkp BK364.out) hb) (below_step qz28 hb);clear BK363 BK364 HB;obtain ⟨BK363,BK364,HB⟩:=n_;clear hb))
  (try simp only [Act.put,sA_,sZ_,sS_]);have H:=HC11.out;clear HC11;by_cases c16:t365=true
  ·subst c16
   have H1:((laws_eqTrmCellS.f k l0_2 l1_2).bind fun t366=>(if t366=true then ((laws_eqTrmCellS.f k l0_3 l1_3).bind fun t367=>(if t367=true then (some true) else (some false))) else (some false)))=some r:=qz26;clear H;have H:=H1;clear H1;replace H:=Option.bind_eq_some_iff.mp H;obtain ⟨t366,A170,H⟩:=H;(try dsimp only at H);have A17:=Aside0.mk A170;clear A170;have HC18:=Aside0.mk H;clear H;have hnb19:=NB363_364.out;have hnc19:=NB364_363.out;obtain ⟨hcz20_0,hcz20_1,hcz20_2,hcz20_3,hfz20_0,hfz20_1,hfz20_2,hfz20_3⟩:=blk4 BK363.out;obtain ⟨hcz21_0,hcz21_1,hcz21_2,hcz21_3,hfz21_0,hfz21_1,hfz21_2,hfz21_3⟩:=blk4 BK364.out;go_upto_if 21 with (first|(go_at_call 28;(with_reducible refine (laws_eqTrmCellS.calls k _ _ l0_2 _ _ l1_2 t366 _ ?side1 ?side2 ?side3 ?side4 A17.out).mono ?_);(case side1=>exact qz18);(case side2=>exact HC0_2.out);(case side3=>repeat (first|exact (Kd.C_below HR1_2.out HB.out)|(with_reducible refine Kd.C_alloc ?_ _)|(with_reducible refine Kd.C_drewN ?_ _)|(with_reducible refine Kd.C_drew ?_)));(case side4=>exact HC1_2.out);rintro e w22 ⟨rfl,hb⟩;have n_:=as3 (blk_below (blkp BK363.out) hb) (blk_below (blkp BK364.out) hb) (below_step qz28 hb);clear BK363 BK364 HB;obtain ⟨BK363,BK364,HB⟩:=n_;clear hb))
   (try simp only [Act.put,sA_,sZ_,sS_]);have H:=HC18.out;clear HC18;by_cases c23:t366=true
   ·subst c23
    have H1:((laws_eqTrmCellS.f k l0_3 l1_3).bind fun t367=>(if t367=true then (some true) else (some false)))=some r:=qz26;clear H;have H:=H1;clear H1;replace H:=Option.bind_eq_some_iff.mp H;obtain ⟨t367,A240,H⟩:=H;(try dsimp only at H);have A24:=Aside0.mk A240;clear A240;have HC25:=Aside0.mk H;clear H;have hnb26:=NB363_364.out;have hnc26:=NB364_363.out;obtain ⟨hcz27_0,hcz27_1,hcz27_2,hcz27_3,hfz27_0,hfz27_1,hfz27_2,hfz27_3⟩:=blk4 BK363.out;obtain ⟨hcz28_0,hcz28_1,hcz28_2,hcz28_3,hfz28_0,hfz28_1,hfz28_2,hfz28_3⟩:=blk4 BK364.out;go_upto_if 27 with (first|(go_at_call 28;(with_reducible refine (laws_eqTrmCellS.calls k _ _ l0_3 _ _ l1_3 t367 _ ?side1 ?side2 ?side3 ?side4 A24.out).mono ?_);(case side1=>exact qz30);(case side2=>exact HC0_3.out);(case side3=>repeat (first|exact (Kd.C_below HR1_3.out HB.out)|(with_reducible refine Kd.C_alloc ?_ _)|(with_reducible refine Kd.C_drewN ?_ _)|(with_reducible refine Kd.C_drew ?_)));(case side4=>exact HC1_3.out);rintro e w29 ⟨rfl,hb⟩;have n_:=as3 (blk_below (blkp BK363.out) hb) (blk_below (blkp BK364.out) hb) (below_step qz28 hb);clear BK363 BK364 HB;obtain ⟨BK363,BK364,HB⟩:=n_;clear hb))
    (try simp only [Act.put,sA_,sZ_,sS_]);have H:=HC25.out;clear HC25;by_cases c30:t367=true
    ·subst c30
     have H1:(some true)=some r:=qz26;clear H;have H:=H1;clear H1;obtain rfl:=Option.some.inj H;go_wp2;go_ret;exact ⟨qz2,qz28⟩
    ·replace c30:=Bool.eq_false_iff.mpr c30
     subst c30;have H1:(some false)=some r:=qz15;clear H;have H:=H1;clear H1;obtain rfl:=Option.some.inj H;go_wp2;go_ret;exact ⟨qz2,qz28⟩
   ·replace c23:=Bool.eq_false_iff.mpr c23
    subst c23;have H1:(some false)=some r:=qz15;clear H;have H:=H1;clear H1;obtain rfl:=Option.some.inj H;go_wp2;go_ret;exact ⟨qz2,qz28⟩
  ·replace c16:=Bool.eq_false_iff.mpr c16
   subst c16;have H1:(some false)=some r:=qz15;clear H;have H:=H1;clear H1;obtain rfl:=Option.some.inj H;go_wp2;go_ret;exact ⟨qz2,qz28⟩
 ·rw [if_neg c9] at H
  have c9b0:(a0_0 == a1_0)=false:=beq_eq_false_iff_ne.mpr c9;have c9b1:(a0_0 != a1_0)=true:=bne_iff_ne.mpr c9;(first|rw [c9b0]|rw [c9b1]|(simp only [i64_w,i32_w];rw [c9b0])|skip);obtain rfl:=Option.some.inj H;go_wp2;go_ret;exact ⟨qz2,qz28⟩

/-! ### laws_eqPrgGoalS: function 49 -/
def laws_eqPrgGoalS.l0:Nat→List (S24)→List (S24)→Int→Option (Bool)
 | 0,_,_,_=>none
 | k+1,x0,x1,x5=>if x5<(x0.length:Int) then (if 0≤x5 then (if x5<(x1.length:Int) then ((laws_eqPrgGoal.f k ((rd_T24 x0 x5).f0) ((rd_T24 x0 x5).f1) ((rd_T24 x0 x5).f2) ((rd_T24 x0 x5).f3) ((rd_T24 x1 x5).f0) ((rd_T24 x1 x5).f1) ((rd_T24 x1 x5).f2) ((rd_T24 x1 x5).f3)).bind fun t370=>(if t370=true then (laws_eqPrgGoalS.l0 k x0 x1 (wrap64 (x5+1))) else (some false))) else (none)) else (none)) else (some true)
def laws_eqPrgGoalS.f (k:Nat) (l0:List (S24)) (l1:List (S24)):Option (Bool):=if (l0.length:Int)=(l1.length:Int) then (laws_eqPrgGoalS.l0 k l0 l1 0) else (some false)
def laws_eqPrgGoalS.T6:Bool × List (List Nat × List Nat):=(true,[([],[]),([],[]),([0,1],[0,1]),([2],[2]),([],[]),([],[]),([4,5],[4,5]),([6],[6]),([3,7],[3,7]),([8],[8])])
def laws_eqPrgGoalS.B6:List Nat:=[0,0,3,7,0,0,48,112,255,511]
theorem laws_eqPrgGoalS.tab6:rtab .any (opsOf Tryz.f49 6)=laws_eqPrgGoalS.T6:=by kernel_rfl
theorem laws_eqPrgGoalS.bits6:waitsOk laws_eqPrgGoalS.T6.2 laws_eqPrgGoalS.B6=true:=by kernel_rfl
set_option maxHeartbeats 8000000 in
set_option maxRecDepth 100000 in
theorem laws_eqPrgGoalS.calls (k:Nat) (A0:Option Addr) (c0:Nat) (l0:List (S24)) (A1:Option Addr) (c1:Nat) (l1:List (S24)) (r:Bool) (w:World) (hr0:Kd.C k24 w A0 l0.length l0) (hc0:l0.length≤c0) (hr1:Kd.C k24 w A1 l1.length l1) (hc1:l1.length≤c1) (h:laws_eqPrgGoalS.f k l0 l1=some r) :
  Calls Tryz.prog 49 #[.slice A0 l0.length c0,.slice A1 l1.length c1] w fun e w'=>e = .returned (.bool r)∧Below w.heap.size w w':=by
 have hu24:=Tryz.underlying24;have HR0:=Aside0.mk hr0;have HC0:=Aside0.mk hc0;clear hr0 hc0;have HR1:=Aside0.mk hr1;have HC1:=Aside0.mk hc1;clear hr1 hc1;have HB:=Aside0.mk (Below.refl w.heap.size w);have H:(if (l0.length:Int)=(l1.length:Int) then (laws_eqPrgGoalS.l0 k l0 l1 0) else (some false))=some r:=h;clear h;by_cases c3:(l0.length:Int)=(l1.length:Int)
 ·rw [if_pos c3] at H
  have c3b0:((l0.length:Int) == (l1.length:Int))=true:=beq_iff_eq.mpr c3;have c3b1:((l0.length:Int) != (l1.length:Int))=false:=bne_eq_false_iff_eq.mpr c3;have c3b2:(l0.length == l1.length)=true:=qz73;clear c3;have H':=Aside0.mk H;clear H;go_enter Tryz.func49,Tryz.ntmps49;go_wp2
  go_loopg [5] k (fun kq v5 w'=>∃ (x5_1:Int),v5 = .int .i64 x5_1∧Aside0 (laws_eqPrgGoalS.l0 kq l0 l1 x5_1=some r)∧Aside0 (kq≤k)∧Aside0 (Below w.heap.size w w'))
  case atStart=>exact ⟨(0),qz5,H',⟨Nat.le_refl _⟩,⟨qz1⟩⟩
  case round=>
   clear H';(try clear c1);(try clear c3);(try clear c3b0);(try clear c3b1);(try clear c3b2);obtain ⟨x5_1,rfl,HA,HK1,HB⟩:=hrel;cases gk with
   | zero=>exact absurd HA.out (by simp [laws_eqPrgGoalS.l0])
   | succ k1=>
    have H:=HA.out;clear HA;simp only [laws_eqPrgGoalS.l0] at H;by_cases c4:x5_1<(l0.length:Int)
    ·rw [if_pos c4] at H
     have c4b0:decide (x5_1<(l0.length:Int))=true:=decide_eq_true c4;clear c4;by_cases c5:0≤x5_1
     ·rw [if_pos c5] at H
      have c5b0:decide (0≤x5_1)=true:=decide_eq_true c5;clear c5;by_cases c6:x5_1<(l1.length:Int)
      ·rw [if_pos c6] at H
       have c6b0:decide (x5_1<(l1.length:Int))=true:=decide_eq_true c6;clear c6;replace H:=Option.bind_eq_some_iff.mp H;obtain ⟨t370,A70,H⟩:=H;(try dsimp only at H);have A7:=Aside0.mk A70;clear A70;have HC8:=Aside0.mk H;clear H;(try go_wp2);have n0_:=Aside0.mk (below_drew1 HB.out);clear HB;have HB:=n0_;clear n0_;have p368:0≤(x5_1:Int):=of_decide_eq_true qz4;have q368:x5_1<(l0.length:Int):=of_decide_eq_true qz4;obtain ⟨ad368,A368_1,c368_1,A368_2,c368_2,A368_3,c368_3,e368,hx368_0,hx368_1,hx368_2,hx368_3,hl368_1,hi368_1,hl368_2,hi368_2,hl368_3,hi368_3⟩:=at_T24 HR0.out x5_1 p368 q368;have hw368_3:=hx368_3;have hw368_2:=hx368_2;have hw368_1:=hx368_1;have hw368_0:=hx368_0;cases e368
       replace hx368_0:=(HB.out.cell (World.block_lt_of_cell? w _ hx368_0)).trans hx368_0;replace hx368_1:=(HB.out.cell (World.block_lt_of_cell? w _ hx368_1)).trans hx368_1;replace hx368_2:=(HB.out.cell (World.block_lt_of_cell? w _ hx368_2)).trans hx368_2;replace hx368_3:=(HB.out.cell (World.block_lt_of_cell? w _ hx368_3)).trans hx368_3;have HR368_1:=Aside0.mk hi368_1;have HC368_1:=Aside0.mk hl368_1;clear hi368_1 hl368_1;have HR368_2:=Aside0.mk hi368_2;have HC368_2:=Aside0.mk hl368_2;clear hi368_2 hl368_2;have HR368_3:=Aside0.mk hi368_3;have HC368_3:=Aside0.mk hl368_3;clear hi368_3 hl368_3;replace p368:=eq_true p368;replace q368:=eq_true q368;have p369:0≤(x5_1:Int):=of_decide_eq_true qz4;have q369:x5_1<(l1.length:Int):=of_decide_eq_true qz4;obtain ⟨ad369,A369_1,c369_1,A369_2,c369_2,A369_3,c369_3,e369,hx369_0,hx369_1,hx369_2,hx369_3,hl369_1,hi369_1,hl369_2,hi369_2,hl369_3,hi369_3⟩:=at_T24 HR1.out x5_1 p369 q369;have hw369_3:=hx369_3;have hw369_2:=hx369_2;have hw369_1:=hx369_1;have hw369_0:=hx369_0;cases e369
       replace hx369_0:=(HB.out.cell (World.block_lt_of_cell? w _ hx369_0)).trans hx369_0;replace hx369_1:=(HB.out.cell (World.block_lt_of_cell? w _ hx369_1)).trans hx369_1;replace hx369_2:=(HB.out.cell (World.block_lt_of_cell? w _ hx369_2)).trans hx369_2;replace hx369_3:=(HB.out.cell (World.block_lt_of_cell? w _ hx369_3)).trans hx369_3;have HR369_1:=Aside0.mk hi369_1;have HC369_1:=Aside0.mk hl369_1;clear hi369_1 hl369_1;have HR369_2:=Aside0.mk hi369_2;have HC369_2:=Aside0.mk hl369_2;clear hi369_2 hl369_2;have HR369_3:=Aside0.mk hi369_3;have HC369_3:=Aside0.mk hl369_3;clear hi369_3 hl369_3;replace p369:=eq_true p369;replace q369:=eq_true q369;refine start_ (n:=10) (S:=fun w'=>w'.cell? (ad368.add ((x5_1).toNat * 4))=some (.int .i64 ((rd_T24 l0 x5_1).f0))∧w'.cell? ⟨(ad368.add ((x5_1).toNat * 4)).block,(ad368.add ((x5_1).toNat * 4)).off+1,none⟩=some (.slice A368_1 ((rd_T24 l0 x5_1).f1).length c368_1)∧w'.cell? ⟨(ad368.add ((x5_1).toNat * 4)).block,(ad368.add ((x5_1).toNat * 4)).off+2,none⟩=some (.slice A368_2 ((rd_T24 l0 x5_1).f2).length c368_2)∧w'.cell? ⟨(ad368.add ((x5_1).toNat * 4)).block,(ad368.add ((x5_1).toNat * 4)).off+3,none⟩=some (.slice A368_3 ((rd_T24 l0 x5_1).f3).length c368_3)∧w'.cell? (ad369.add ((x5_1).toNat * 4))=some (.int .i64 ((rd_T24 l1 x5_1).f0))∧w'.cell? ⟨(ad369.add ((x5_1).toNat * 4)).block,(ad369.add ((x5_1).toNat * 4)).off+1,none⟩=some (.slice A369_1 ((rd_T24 l1 x5_1).f1).length c369_1)∧w'.cell? ⟨(ad369.add ((x5_1).toNat * 4)).block,(ad369.add ((x5_1).toNat * 4)).off+2,none⟩=some (.slice A369_2 ((rd_T24 l1 x5_1).f2).length c369_2)∧w'.cell? ⟨(ad369.add ((x5_1).toNat * 4)).block,(ad369.add ((x5_1).toNat * 4)).off+3,none⟩=some (.slice A369_3 ((rd_T24 l1 x5_1).f3).length c369_3)) (ds:=[]) #[false,false,false,false,false,false,false,false,false,false] (by kernel_rfl) rfl rfl ⟨((HB.out.cell (World.block_lt_of_cell? w _ hw368_0)).trans hw368_0),((HB.out.cell (World.block_lt_of_cell? w _ hw368_1)).trans hw368_1),((HB.out.cell (World.block_lt_of_cell? w _ hw368_2)).trans hw368_2),((HB.out.cell (World.block_lt_of_cell? w _ hw368_3)).trans hw368_3),((HB.out.cell (World.block_lt_of_cell? w _ hw369_0)).trans hw369_0),((HB.out.cell (World.block_lt_of_cell? w _ hw369_1)).trans hw369_1),((HB.out.cell (World.block_lt_of_cell? w _ hw369_2)).trans hw369_2),((HB.out.cell (World.block_lt_of_cell? w _ hw369_3)).trans hw369_3)⟩ (fun hHeld=>?_);refine with_tabW laws_eqPrgGoalS.tab6 laws_eqPrgGoalS.bits6 (fun HT_ HW_=>?_)
       generalize wr.drew=w9 at HB HR368_1 HR368_2 HR368_3 HR369_1 HR369_2 HR369_3 hx368_0 hx368_1 hx368_2 hx368_3 hx369_0 hx369_1 hx369_2 hx369_3 hHeld ⊢
       refine pure_ (i:=0) (N:=some 17) (v:=?_) (a':=?_) #[true,false,false,false,false,false,false,false,false,false] rfl rfl (any_of HT_.out (by kernel_rfl)) (fun _ _ _ h=>h) (Or.inl ⟨by rfl,?_⟩) ?_ ?_;rotate_left
       ·intro w'
        go_simp;with_reducible rfl
       rotate_left
       ·simp only [Act.put,sA_,sZ_,sS_,i64_w,i32_w]
        rfl
       refine pure_ (i:=1) (N:=some 18) (v:=?_) (a':=?_) #[true,true,false,false,false,false,false,false,false,false] rfl rfl (any_of HT_.out (by kernel_rfl)) (fun _ _ _ h=>h) (Or.inl ⟨by rfl,?_⟩) ?_ ?_;rotate_left
       ·intro w'
        go_simp;with_reducible rfl
       rotate_left
       ·simp only [Act.put,sA_,sZ_,sS_,i64_w,i32_w]
        rfl
       refine pure_ (i:=2) (N:=some 19) (v:=?_) (a':=?_) #[true,true,true,false,false,false,false,false,false,false] rfl rfl (any_of HT_.out (by kernel_rfl)) (fun _ _ _ h=>h) (Or.inl ⟨by rfl,?_⟩) ?_ ?_;rotate_left
       ·intro w'
        go_simp;with_reducible rfl
       rotate_left
       ·simp only [Act.put,sA_,sZ_,sS_,i64_w,i32_w]
        rfl
       refine pure_ (i:=4) (N:=some 21) (v:=?_) (a':=?_) #[true,true,true,false,true,false,false,false,false,false] rfl rfl (any_of HT_.out (by kernel_rfl)) (fun _ _ _ h=>h) (Or.inl ⟨by rfl,?_⟩) ?_ ?_;rotate_left
       ·intro w'
        go_simp;with_reducible rfl
       rotate_left
       ·simp only [Act.put,sA_,sZ_,sS_,i64_w,i32_w]
        rfl
       refine pure_ (i:=5) (N:=some 22) (v:=?_) (a':=?_) #[true,true,true,false,true,true,false,false,false,false] rfl rfl (any_of HT_.out (by kernel_rfl)) (fun _ _ _ h=>h) (Or.inl ⟨by rfl,?_⟩) ?_ ?_;rotate_left
       ·intro w'
        go_simp;with_reducible rfl
       rotate_left
       ·simp only [Act.put,sA_,sZ_,sS_,i64_w,i32_w]
        rfl
       refine pure_ (i:=6) (N:=some 23) (v:=?_) (a':=?_) #[true,true,true,false,true,true,true,false,false,false] rfl rfl (any_of HT_.out (by kernel_rfl)) (fun _ _ _ h=>h) (Or.inl ⟨by rfl,?_⟩) ?_ ?_;rotate_left
       ·intro w'
        go_simp;with_reducible rfl
       rotate_left
       ·simp only [Act.put,sA_,sZ_,sS_,i64_w,i32_w]
        rfl
       refine take_ (i:=3) (N:=some 20) (v:=?_) (a':=?_) #[true,true,true,true,true,true,true,false,false,false] rfl rfl (take_ofW HT_.out HW_.out (by kernel_rfl)) (fun _ _ _ h=>h) (Or.inl ⟨by rfl,?_⟩) hHeld ?_ ?_;rotate_left
       ·rintro w' ⟨s0,s1,s2,s3,s4,s5,s6,s7⟩
        go_simp;with_reducible rfl
       rotate_left
       ·simp only [Act.put,sA_,sZ_,sS_,i64_w,i32_w]
        rfl
       refine take_ (i:=7) (N:=some 24) (v:=?_) (a':=?_) #[true,true,true,true,true,true,true,true,false,false] rfl rfl (take_ofW HT_.out HW_.out (by kernel_rfl)) (fun _ _ _ h=>h) (Or.inl ⟨by rfl,?_⟩) hHeld ?_ ?_;rotate_left
       ·rintro w' ⟨s0,s1,s2,s3,s4,s5,s6,s7⟩
        go_simp;with_reducible rfl
       rotate_left
       ·simp only [Act.put,sA_,sZ_,sS_,i64_w,i32_w]
        rfl
       refine one_ (i:=8) (N:=some 25) #[true,true,true,true,true,true,true,true,true,false] rfl rfl (one_of HT_.out (by kernel_rfl)) (by decide) (fun K hK=>?_);refine goes_ Tryz.func8 (by kernel_rfl) rfl #[.agg #[.int .i64 ((rd_T24 l0 x5_1).f0),.slice A368_1 ((rd_T24 l0 x5_1).f1).length c368_1,.slice A368_2 ((rd_T24 l0 x5_1).f2).length c368_2,.slice A368_3 ((rd_T24 l0 x5_1).f3).length c368_3],.agg #[.int .i64 ((rd_T24 l1 x5_1).f0),.slice A369_1 ((rd_T24 l1 x5_1).f1).length c369_1,.slice A369_2 ((rd_T24 l1 x5_1).f2).length c369_2,.slice A369_3 ((rd_T24 l1 x5_1).f3).length c369_3]] (by rfl) rfl rfl qz22 ?_;(with_reducible refine (laws_eqPrgGoal.calls k1 ((rd_T24 l0 x5_1).f0) _ _ ((rd_T24 l0 x5_1).f1) _ _ ((rd_T24 l0 x5_1).f2) _ _ ((rd_T24 l0 x5_1).f3) ((rd_T24 l1 x5_1).f0) _ _ ((rd_T24 l1 x5_1).f1) _ _ ((rd_T24 l1 x5_1).f2) _ _ ((rd_T24 l1 x5_1).f3) t370 _ ?side1 ?side2 ?side3 ?side4 ?side5 ?side6 ?side7 ?side8 ?side9 ?side10 ?side11 ?side12 A7.out).mono ?_)
       (case side1=>repeat (first|exact (Kd.C_below HR368_1.out HB.out)|(with_reducible refine Kd.C_alloc ?_ _)|(with_reducible refine Kd.C_drewN ?_ _)|(with_reducible refine Kd.C_drew ?_)))
       (case side2=>exact HC368_1.out)
       (case side3=>repeat (first|exact (Kd.C_below HR368_2.out HB.out)|(with_reducible refine Kd.C_alloc ?_ _)|(with_reducible refine Kd.C_drewN ?_ _)|(with_reducible refine Kd.C_drew ?_)))
       (case side4=>exact HC368_2.out)
       (case side5=>repeat (first|exact (Kd.C_below HR368_3.out HB.out)|(with_reducible refine Kd.C_alloc ?_ _)|(with_reducible refine Kd.C_drewN ?_ _)|(with_reducible refine Kd.C_drew ?_)))
       (case side6=>exact HC368_3.out)
       (case side7=>repeat (first|exact (Kd.C_below HR369_1.out HB.out)|(with_reducible refine Kd.C_alloc ?_ _)|(with_reducible refine Kd.C_drewN ?_ _)|(with_reducible refine Kd.C_drew ?_)))
       (case side8=>exact HC369_1.out)
       (case side9=>repeat (first|exact (Kd.C_below HR369_2.out HB.out)|(with_reducible refine Kd.C_alloc ?_ _)|(with_reducible refine Kd.C_drewN ?_ _)|(with_reducible refine Kd.C_drew ?_)))
       (case side10=>exact HC369_2.out)
       (case side11=>repeat (first|exact (Kd.C_below HR369_3.out HB.out)|(with_reducible refine Kd.C_alloc ?_ _)|(with_reducible refine Kd.C_drewN ?_ _)|(with_reducible refine Kd.C_drew ?_)))
       (case side12=>exact HC369_3.out)
       rintro e w10 ⟨rfl,hb⟩;refine ⟨_,rfl,?_⟩;have n0_:=Aside0.mk (below_step qz3 hb);clear HB;have HB:=n0_;clear n0_;(try clear hb);(try clear hb2);(try clear hk);(try clear hi);refine hK.out _ _ ⟨((HB.out.cell (World.block_lt_of_cell? w _ hw368_0)).trans hw368_0),((HB.out.cell (World.block_lt_of_cell? w _ hw368_1)).trans hw368_1),((HB.out.cell (World.block_lt_of_cell? w _ hw368_2)).trans hw368_2),((HB.out.cell (World.block_lt_of_cell? w _ hw368_3)).trans hw368_3),((HB.out.cell (World.block_lt_of_cell? w _ hw369_0)).trans hw369_0),((HB.out.cell (World.block_lt_of_cell? w _ hw369_1)).trans hw369_1),((HB.out.cell (World.block_lt_of_cell? w _ hw369_2)).trans hw369_2),((HB.out.cell (World.block_lt_of_cell? w _ hw369_3)).trans hw369_3)⟩ (fun hHeld=>?_);clear hK K;refine norm_ (a':=?_) ?_ ?_;rotate_left
       ·show Act.put _ (some 25) _=_
        simp only [Act.put,sA_,sZ_,sS_,i64_w,i32_w];rfl
       refine pure_ (i:=9) (N:=some 26) (v:=?_) (a':=?_) #[true,true,true,true,true,true,true,true,true,true] rfl rfl (any_of HT_.out (by kernel_rfl)) (fun _ _ _ h=>h) (Or.inl ⟨by rfl,?_⟩) ?_ ?_;rotate_left
       ·intro w'
        go_simp;with_reducible rfl
       rotate_left
       ·simp only [Act.put,sA_,sZ_,sS_,i64_w,i32_w]
        rfl
       refine done_ (done_of HT_.out (by kernel_rfl)) ?_;go_upto_if 26 with (fail)
       have H:=HC8.out;clear HC8;by_cases c11:t370=true
       ·subst c11
        have H1:(laws_eqPrgGoalS.l0 k1 l0 l1 (wrap64 (x5_1+1)))=some r:=qz26;clear H;have H:=H1;clear H1;have H':=Aside0.mk H;clear H;go_wp2;go_roundg k1
        case measure=>have:=HK1.out;omega
        case rel=>exact ⟨(wrap64 (x5_1+1)),qz5,H',⟨by have:=HK1.out;omega⟩,⟨qz1⟩⟩
       ·replace c11:=Bool.eq_false_iff.mpr c11
        subst c11;have H1:(some false)=some r:=qz15;clear H;have H:=H1;clear H1;obtain rfl:=Option.some.inj H;go_wp2;go_ret;exact ⟨qz2,qz1⟩
      ·rw [if_neg c6] at H
       exact absurd H (by simp)
     ·rw [if_neg c5] at H
      exact absurd H (by simp)
    ·rw [if_neg c4] at H
     have c4b0:decide (x5_1<(l0.length:Int))=false:=decide_eq_false c4;clear c4;obtain rfl:=Option.some.inj H;go_wp2;go_ret;exact ⟨qz2,qz1⟩
 ·rw [if_neg c3] at H
  have c3b0:((l0.length:Int) == (l1.length:Int))=false:=beq_eq_false_iff_ne.mpr c3;have c3b1:((l0.length:Int) != (l1.length:Int))=true:=bne_iff_ne.mpr c3;have c3b2:(l0.length == l1.length)=false:=qz73;obtain rfl:=Option.some.inj H;go_enter Tryz.func49,Tryz.ntmps49;go_wp2;go_ret;exact ⟨qz2,qz1⟩

/-! ### laws_eqPrgClause: function 21 -/
def laws_eqPrgClause.f (k:Nat) (l0_0:List (S63)) (l0_1:List (S24)) (l1_0:List (S63)) (l1_1:List (S24)):Option (Bool):=(laws_eqTrmCellS.f k l0_0 l1_0).bind fun t373=>(if t373=true then ((laws_eqPrgGoalS.f k l0_1 l1_1).bind fun t374=>(if t374=true then (some true) else (some false))) else (some false))
set_option maxHeartbeats 8000000 in
set_option maxRecDepth 100000 in
theorem laws_eqPrgClause.calls (k:Nat) (A0_0:Option Addr) (c0_0:Nat) (l0_0:List (S63)) (A0_1:Option Addr) (c0_1:Nat) (l0_1:List (S24)) (A1_0:Option Addr) (c1_0:Nat) (l1_0:List (S63)) (A1_1:Option Addr) (c1_1:Nat) (l1_1:List (S24)) (r:Bool) (w:World) (hr0_0:Kd.C k63 w A0_0 l0_0.length l0_0) (hc0_0:l0_0.length≤c0_0) (hr0_1:Kd.C k24 w A0_1 l0_1.length l0_1) (hc0_1:l0_1.length≤c0_1) (hr1_0:Kd.C k63 w A1_0 l1_0.length l1_0) (hc1_0:l1_0.length≤c1_0) (hr1_1:Kd.C k24 w A1_1 l1_1.length l1_1) (hc1_1:l1_1.length≤c1_1) (h:laws_eqPrgClause.f k l0_0 l0_1 l1_0 l1_1=some r) :
  Calls Tryz.prog 21 #[.agg #[.slice A0_0 l0_0.length c0_0,.slice A0_1 l0_1.length c0_1],.agg #[.slice A1_0 l1_0.length c1_0,.slice A1_1 l1_1.length c1_1]] w fun e w'=>e = .returned (.bool r)∧Below w.heap.size w w':=by
 have hu39:=Tryz.underlying39;have HR0_0:=Aside0.mk hr0_0;have HC0_0:=Aside0.mk hc0_0;clear hr0_0 hc0_0;have HR0_1:=Aside0.mk hr0_1;have HC0_1:=Aside0.mk hc0_1;clear hr0_1 hc0_1;have HR1_0:=Aside0.mk hr1_0;have HC1_0:=Aside0.mk hc1_0;clear hr1_0 hc1_0;have HR1_1:=Aside0.mk hr1_1;have HC1_1:=Aside0.mk hc1_1;clear hr1_1 hc1_1;have HB:=Aside0.mk (Below.refl w.heap.size w);have H:((laws_eqTrmCellS.f k l0_0 l1_0).bind fun t373=>(if t373=true then ((laws_eqPrgGoalS.f k l0_1 l1_1).bind fun t374=>(if t374=true then (some true) else (some false))) else (some false)))=some r:=h;clear h;replace H:=Option.bind_eq_some_iff.mp H;obtain ⟨t373,A30,H⟩:=H;(try dsimp only at H);have A3:=Aside0.mk A30;clear A30;have HC4:=Aside0.mk H;clear H;go_enter Tryz.func21,Tryz.ntmps21;go_upto_if 10 with (first|((with_reducible refine gate_dst (N:=2) rfl ?_);refine box_event ?hg (N:=2) ?hd (cs:=#[.slice A0_0 l0_0.length c0_0,.slice A0_1 l0_1.length c0_1]) (t:=39) ?hr ?_;(case hd=>rfl);(case hg=>rfl);(case hr=>first|(go_simp;done)|(go_simp;rfl));intro gb371 hg w5 hbox hb;have n_:=as3 (below_step qz3 hb) (hbox) ((by rw [hg];exact (below_size qz3):w.heap.size≤gb371));clear HB;obtain ⟨HB,BK371,GE371⟩:=n_;clear hb hbox hg)|((with_reducible refine gate_dst (N:=3) rfl ?_);refine box_event ?hg (N:=3) ?hd (cs:=#[.slice A1_0 l1_0.length c1_0,.slice A1_1 l1_1.length c1_1]) (t:=39) ?hr ?_;(case hd=>rfl);(case hg=>rfl);(case hr=>first|(go_simp;done)|(go_simp;rfl));intro gb372 hg w6 hbox hb;have n_:=as6 (blk_below (blkp BK371.out) hb) (below_step qz65 hb) (hbox) ((by rw [hg];exact (below_size qz65):w.heap.size≤gb372)) ((by rw [hg];exact Nat.ne_of_lt (blk_lt (blkp BK371.out)):gb371≠gb372)) ((by rw [hg];exact Nat.ne_of_gt (blk_lt (blkp BK371.out)):gb372≠gb371));clear BK371 HB;obtain ⟨BK371,HB,BK372,GE372,NB371_372,NB372_371⟩:=n_;clear hb hbox hg;have hnb7:=NB371_372.out;have hnc7:=NB372_371.out;obtain ⟨hcz8_0,hcz8_1,hfz8_0,hfz8_1⟩:=blk2 BK371.out;obtain ⟨hcz9_0,hcz9_1,hfz9_0,hfz9_1⟩:=blk2 BK372.out)|(go_at_call 28;(with_reducible refine (laws_eqTrmCellS.calls k _ _ l0_0 _ _ l1_0 t373 _ ?side1 ?side2 ?side3 ?side4 A3.out).mono ?_);(case side1=>exact qz19);(case side2=>exact HC0_0.out);(case side3=>repeat (first|exact (Kd.C_below HR1_0.out HB.out)|(with_reducible refine Kd.C_alloc ?_ _)|(with_reducible refine Kd.C_drewN ?_ _)|(with_reducible refine Kd.C_drew ?_)));(case side4=>exact HC1_0.out);rintro e w10 ⟨rfl,hb⟩;have n_:=as3 (blk_below (blkp BK371.out) hb) (blk_below (blkp BK372.out) hb) (below_step qz35 hb);clear BK371 BK372 HB;obtain ⟨BK371,BK372,HB⟩:=n_;clear hb))
 (try simp only [Act.put,sA_,sZ_,sS_]);have H:=HC4.out;clear HC4;by_cases c11:t373=true
 ·subst c11
  have H1:((laws_eqPrgGoalS.f k l0_1 l1_1).bind fun t374=>(if t374=true then (some true) else (some false)))=some r:=qz26;clear H;have H:=H1;clear H1;replace H:=Option.bind_eq_some_iff.mp H;obtain ⟨t374,A120,H⟩:=H;(try dsimp only at H);have A12:=Aside0.mk A120;clear A120;have HC13:=Aside0.mk H;clear H;have hnb14:=NB371_372.out;have hnc14:=NB372_371.out;obtain ⟨hcz15_0,hcz15_1,hfz15_0,hfz15_1⟩:=blk2 BK371.out;obtain ⟨hcz16_0,hcz16_1,hfz16_0,hfz16_1⟩:=blk2 BK372.out;go_upto_if 16 with (first|(go_at_call 49;(with_reducible refine (laws_eqPrgGoalS.calls k _ _ l0_1 _ _ l1_1 t374 _ ?side1 ?side2 ?side3 ?side4 A12.out).mono ?_);(case side1=>exact qz8);(case side2=>exact HC0_1.out);(case side3=>exact qz62);(case side4=>exact HC1_1.out);rintro e w17 ⟨rfl,hb⟩;have n_:=as3 (blk_below (blkp BK371.out) hb) (blk_below (blkp BK372.out) hb) (below_step qz35 hb);clear BK371 BK372 HB;obtain ⟨BK371,BK372,HB⟩:=n_;clear hb))
  (try simp only [Act.put,sA_,sZ_,sS_]);have H:=HC13.out;clear HC13;by_cases c18:t374=true
  ·subst c18
   have H1:(some true)=some r:=qz26;clear H;have H:=H1;clear H1;obtain rfl:=Option.some.inj H;go_wp2;go_ret;exact ⟨qz2,qz35⟩
  ·replace c18:=Bool.eq_false_iff.mpr c18
   subst c18;have H1:(some false)=some r:=qz15;clear H;have H:=H1;clear H1;obtain rfl:=Option.some.inj H;go_wp2;go_ret;exact ⟨qz2,qz35⟩
 ·replace c11:=Bool.eq_false_iff.mpr c11
  subst c11;have H1:(some false)=some r:=qz15;clear H;have H:=H1;clear H1;obtain rfl:=Option.some.inj H;go_wp2;go_ret;exact ⟨qz2,qz35⟩

/-! ### laws_markText: function 55 -/
def laws_markText.l0:Nat→Int→ByteArray→Option (ByteArray)
 | 0,_,_=>none
 | k+1,x0,x3=>if x0 > 0 then ((some (([(wrap64 (48+(Int.tmod x0 10))) % 256]:List Int):List Int)).bind fun y375=>(if (strOfNums y375).size+x3.size≤9223372036854775807 then (laws_markText.l0 k (wrap64 (Int.tdiv x0 10)) ((strOfNums y375)++x3)) else (none))) else (if 1+x3.size≤9223372036854775807 then (some ((⟨#[109]⟩:ByteArray)++x3)) else (none))
def laws_markText.f (k:Nat) (a0:Int):Option (ByteArray):=if a0≤0 then (some (⟨#[109,48]⟩:ByteArray)) else (laws_markText.l0 k a0 (⟨#[]⟩:ByteArray))
set_option maxHeartbeats 8000000 in
set_option maxRecDepth 100000 in
theorem laws_markText.calls (k:Nat) (a0:Int) (r:ByteArray) (w:World) (h:laws_markText.f k a0=some r) :
  Calls Tryz.prog 55 #[.int .i64 a0] w fun e w'=>e = .returned (.string r)∧Below w.heap.size w w':=by
 have HB:=Aside0.mk (Below.refl w.heap.size w);have H:(if a0≤0 then (some (⟨#[109,48]⟩:ByteArray)) else (laws_markText.l0 k a0 (⟨#[]⟩:ByteArray)))=some r:=h;clear h;by_cases c2:a0≤0
 ·rw [if_pos c2] at H
  have c2b0:decide (a0≤0)=true:=decide_eq_true c2;clear c2;obtain rfl:=Option.some.inj H;go_enter Tryz.func55,Tryz.ntmps55;go_wp2;go_ret;exact ⟨qz2,qz1⟩
 ·rw [if_neg c2] at H
  have c2b0:decide (a0≤0)=false:=decide_eq_false c2;clear c2;have H':=Aside0.mk H;clear H;go_enter Tryz.func55,Tryz.ntmps55;go_wp2
  go_loopg [0,3] k (fun kq v0 v3 w'=>∃ (x0_1:Int) (x3_1:ByteArray),v0 = .int .i64 x0_1∧v3 = .string x3_1∧Aside0 (laws_markText.l0 kq x0_1 x3_1=some r)∧Aside0 (kq≤k)∧Aside0 (Below w.heap.size w w'))
  case atStart=>exact ⟨(a0),((⟨#[]⟩:ByteArray)),qz5,qz5,H',⟨Nat.le_refl _⟩,⟨qz1⟩⟩
  case round=>
   clear H';(try clear c2);(try clear c2b0);obtain ⟨x0_1,x3_1,rfl,rfl,HA,HK1,HB⟩:=hrel;cases gk with
   | zero=>exact absurd HA.out (by simp [laws_markText.l0])
   | succ k1=>
    have H:=HA.out;clear HA;simp only [laws_markText.l0] at H;by_cases c3:x0_1 > 0
    ·rw [if_pos c3] at H
     have c3b0:decide (0<x0_1)=true:=decide_eq_true c3;clear c3;obtain ⟨y375,hy375⟩:∃ y_:List Int,y_=(([(wrap64 (48+(Int.tmod x0_1 10))) % 256]:List Int)):=⟨_,rfl⟩;replace H:(if (strOfNums y375).size+x3_1.size≤9223372036854775807 then (laws_markText.l0 k1 (wrap64 (Int.tdiv x0_1 10)) ((strOfNums y375)++x3_1)) else (none))=some r:=by first|(rw [hy375];exact H)|exact H
     have Ny375:=Aside0.mk hy375;clear hy375;by_cases c4:(strOfNums y375).size+x3_1.size≤9223372036854775807
     ·rw [if_pos c4] at H
      have c4b0:=eq_true c4;have c4b1:decide ((strOfNums y375).size+x3_1.size≤9223372036854775807)=true:=decide_eq_true c4;(try have c4b2:(9223372036854775807<(strOfNums y375).size+x3_1.size)=False:=eq_false (Nat.not_lt.2 c4));have H':=Aside0.mk H;clear H
      go_wp2_with (first|((with_reducible refine gate_dst (N:=12) rfl ?_);refine Kd.R_lit (Kd.int .u8) _ 5 ?hg (N:=12) ?hd (xs:=([(wrap64 (48+(Int.tmod x0_1 10))) % 256]:List Int)) (inner:=[.int .u8 ((wrap64 (48+(Int.tmod x0_1 10))) % 256)]) (ok:=fun _=>True) (okp:=fun _=>True) ?hr ?hp (fun _ hk=>hk) trivial (Below.refl _ _) (Nat.le_refl _) (by simp) ?_;(case hd=>rfl);(case hg=>rfl);(case hr=>first|(go_simp;done)|(go_simp;rfl));(case hp=>exact (Reps.one (show Kd.M (Kd.int .u8) _ _ _ ((wrap64 (48+(Int.tmod x0_1 10))) % 256) [.int .u8 ((wrap64 (48+(Int.tmod x0_1 10))) % 256)] from rfl) (Reps.none _ _)));intro v376 w5 ho6 hb hg_ hnew_;clear hg_ hnew_;(first|rw [← Ny375.out] at ho6|(simp only [Int.reduceToNat] at ho6;rw [← Ny375.out] at ho6));have n_:=as2 (Kd.R_lower ho6 (below_size qz3)) (below_step qz3 hb);clear HB;obtain ⟨HO377,HB⟩:=n_;clear hb ho6;have hcv7:=own_string (P:=Tryz.prog) Tryz.underlying30 Tryz.underlying5 Tryz.underlying9 (Kd.own_of_R HO377.out)))
      go_roundg k1
      case measure=>have:=HK1.out;omega
      case rel=>exact ⟨(wrap64 (Int.tdiv x0_1 10)),((strOfNums y375)++x3_1),qz5,qz5,H',⟨by have:=HK1.out;omega⟩,⟨qz1⟩⟩
     ·rw [if_neg c4] at H
      exact absurd H (by simp)
    ·rw [if_neg c3] at H
     have c3b0:decide (0<x0_1)=false:=decide_eq_false c3;clear c3;by_cases c8:1+x3_1.size≤9223372036854775807
     ·rw [if_pos c8] at H
      have c8b0:=eq_true c8;have c8b1:decide (1+x3_1.size≤9223372036854775807)=true:=decide_eq_true c8;(try have c8b2:(9223372036854775807<1+x3_1.size)=False:=eq_false (Nat.not_lt.2 c8));obtain rfl:=Option.some.inj H;go_wp2;go_ret;exact ⟨qz2,qz1⟩
     ·rw [if_neg c8] at H
      exact absurd H (by simp)

/-! ### laws_markTrmCellS: function 29 -/
def laws_markTrmCellS.l0:Nat→List (S63)→Int→Int→Option (Int × (List (S63)))
 | 0,_,_,_=>none
 | k+1,x0,x1,x5=>if x5<(x0.length:Int) then (if 0≤x5 then ((some (x0.set (x5:Int).toNat (⟨x1,(rd_T63 x0 x5).f1,(rd_T63 x0 x5).f2⟩:S63):List (S63))).bind fun y378=>((some (y378.set (x5:Int).toNat (⟨(rd_T63 y378 x5).f0,wrap64 (x1+1),(rd_T63 y378 x5).f2⟩:S63):List (S63))).bind fun y379=>((laws_markText.f k (wrap64 ((wrap64 (x1+1))+1))).bind fun t380=>(laws_markTrmCellS.l0 k (y379.set (x5:Int).toNat (⟨(rd_T63 y379 x5).f0,(rd_T63 y379 x5).f1,t380⟩:S63)) (wrap64 ((wrap64 ((wrap64 (x1+1))+1))+1)) (wrap64 (x5+1)))))) else (none)) else (some (x1,x0))
def laws_markTrmCellS.f (k:Nat) (l0:List (S63)) (a1:Int):Option (Int × (List (S63))):=laws_markTrmCellS.l0 k l0 a1 0
set_option maxHeartbeats 8000000 in
set_option maxRecDepth 100000 in
theorem laws_markTrmCellS.calls (k:Nat) (P0_:Nat→Prop) (u9000_:Value) (l0:List (S63)) (a1:Int) (r1:Int) (r2:List (S63)) (w0 w:World) (hB:Below w0.heap.size w0 w) (ho0:Kd.R k63 63 w w0.heap.size P0_ u9000_ l0) (h:laws_markTrmCellS.f k l0 a1=some (r1,r2)) :
  Calls Tryz.prog 29 #[u9000_,.int .i64 a1] w fun e w'=>e = .returned (.int .i64 r1)∧Kd.R k63 63 w' w0.heap.size (fun k_=>(P0_ k_∨w.heap.size≤k_)) u9000_ r2∧Below w0.heap.size w0 w'∧Kept w w' (fun k_=>P0_ k_):=by
 have HO0:=Aside0.mk (show Kd.R k63 63 w w0.heap.size (fun k_=>(P0_ k_∨w.heap.size≤k_)) u9000_ l0 from Kd.R_mono ho0 (fun k_ hk=>(.inl hk)));have HK:=Aside0.mk (Kept.refl w (fun k_=>P0_ k_));have HW0:=Aside0.mk hB.size;have HB:=Aside0.mk hB;clear hB;have H:(laws_markTrmCellS.l0 k l0 a1 0)=some (r1,r2):=h;clear h;have H':=Aside0.mk H;clear H;go_enter Tryz.func29,Tryz.ntmps29;go_wp2
 go_loopg [1,5] k (fun kq v1 v5 w'=>∃ (x0_1:List (S63)) (x1_1:Int) (x5_1:Int),v1 = .int .i64 x1_1∧v5 = .int .i64 x5_1∧Aside0 (laws_markTrmCellS.l0 kq x0_1 x1_1 x5_1=some (r1,r2))∧Aside0 (kq≤k)∧Aside0 (Kd.R k63 63 w' w0.heap.size (fun k_=>(P0_ k_∨w.heap.size≤k_)) u9000_ x0_1)∧Aside0 (Kept w w' (fun k_=>P0_ k_))∧Aside0 (Below w0.heap.size w0 w'))
 case atStart=>exact ⟨(l0),(a1),(0),qz5,qz5,H',⟨Nat.le_refl _⟩,⟨Kd.Rp HO0.out⟩,⟨qz36⟩,⟨qz1⟩⟩
 case round=>
  clear H';obtain ⟨x0_1,x1_1,x5_1,rfl,rfl,HA,HK1,HO_0,HK,HB⟩:=hrel;cases gk with
  | zero=>exact absurd HA.out (by simp [laws_markTrmCellS.l0])
  | succ k1=>
   have H:=HA.out;clear HA;simp only [laws_markTrmCellS.l0] at H;by_cases c3:x5_1<(x0_1.length:Int)
   ·rw [if_pos c3] at H
    have c3b0:decide (x5_1<(x0_1.length:Int))=true:=decide_eq_true c3;clear c3;by_cases c4:0≤x5_1
    ·rw [if_pos c4] at H
     have c4b0:decide (0≤x5_1)=true:=decide_eq_true c4;clear c4;obtain ⟨y378,hy378⟩:∃ y_:List (S63),y_=(x0_1.set (x5_1:Int).toNat (⟨x1_1,(rd_T63 x0_1 x5_1).f1,(rd_T63 x0_1 x5_1).f2⟩:S63)):=⟨_,rfl⟩;replace H:((some (y378.set (x5_1:Int).toNat (⟨(rd_T63 y378 x5_1).f0,wrap64 (x1_1+1),(rd_T63 y378 x5_1).f2⟩:S63):List (S63))).bind fun y379=>((laws_markText.f k1 (wrap64 ((wrap64 (x1_1+1))+1))).bind fun t380=>(laws_markTrmCellS.l0 k1 (y379.set (x5_1:Int).toNat (⟨(rd_T63 y379 x5_1).f0,(rd_T63 y379 x5_1).f1,t380⟩:S63)) (wrap64 ((wrap64 ((wrap64 (x1_1+1))+1))+1)) (wrap64 (x5_1+1)))))=some (r1,r2):=by first|(rw [hy378];exact H)|exact H
     have Ny378:=Aside0.mk hy378;clear hy378;obtain ⟨y379,hy379⟩:∃ y_:List (S63),y_=(y378.set (x5_1:Int).toNat (⟨(rd_T63 y378 x5_1).f0,wrap64 (x1_1+1),(rd_T63 y378 x5_1).f2⟩:S63)):=⟨_,rfl⟩;replace H:((laws_markText.f k1 (wrap64 ((wrap64 (x1_1+1))+1))).bind fun t380=>(laws_markTrmCellS.l0 k1 (y379.set (x5_1:Int).toNat (⟨(rd_T63 y379 x5_1).f0,(rd_T63 y379 x5_1).f1,t380⟩:S63)) (wrap64 ((wrap64 ((wrap64 (x1_1+1))+1))+1)) (wrap64 (x5_1+1))))=some (r1,r2):=by first|(rw [hy379];exact H)|exact H
     have Ny379:=Aside0.mk hy379;clear hy379;replace H:=Option.bind_eq_some_iff.mp H;obtain ⟨t380,A70,H⟩:=H;(try dsimp only at H);have A7:=Aside0.mk A70;clear A70;obtain ⟨y381,hy381⟩:∃ y_:List (S63),y_=(y379.set (x5_1:Int).toNat (⟨(rd_T63 y379 x5_1).f0,(rd_T63 y379 x5_1).f1,t380⟩:S63)):=⟨_,rfl⟩;replace H:(laws_markTrmCellS.l0 k1 y381 (wrap64 ((wrap64 ((wrap64 (x1_1+1))+1))+1)) (wrap64 (x5_1+1)))=some (r1,r2):=by first|(rw [hy381];exact H)|exact H
     have Ny381:=Aside0.mk hy381;clear hy381;have H':=Aside0.mk H;clear H;obtain ⟨Ao9,co9,eo9⟩:=Kd.R_slice HO_0.out;subst eo9;have p5:0≤(x5_1:Int):=of_decide_eq_true qz4;have q5:(x5_1:Int)<((x0_1.length:Int):Int):=of_decide_eq_true qz4;obtain ⟨go5,co5,eo5,gb5,gl5,cl5,HG5⟩:=Kd.R_form HO_0.out (by omega);(first|cases eo5|(injection eo5 with ea_ en_ ec_;(first|subst ea_|(injection ea_ with ea_;subst ea_));subst ec_;clear en_));have GB5:=Aside0.mk gb5;have GG5:=Aside0.mk HG5;clear gb5 gl5 HG5;have HMgo5:=Aside0.mk (show (P0_ go5∨w.heap.size≤go5) from (HO_0.out.1 _ rfl));obtain ⟨ce5,hcl5,hM5,hcc5,hfr5⟩:=Kd.R_elem HO_0.out z63 (x5_1:Int) p5 q5;obtain rfl:=k63_openM hM5;have hx5_0:wr.cell? ⟨go5,(x5_1:Int).toNat * 3,none⟩=some (.int .i64 ((rd_T63 x0_1 x5_1).f0)):=hcc5 0 _ rfl;have hx5_1:wr.cell? ⟨go5,(x5_1:Int).toNat * 3+1,none⟩=some (.int .i64 ((rd_T63 x0_1 x5_1).f1)):=hcc5 1 _ rfl;have hx5_2:wr.cell? ⟨go5,(x5_1:Int).toNat * 3+2,none⟩=some (.string ((rd_T63 x0_1 x5_1).f2)):=hcc5 2 _ rfl;have hf5_0:wr.frozen? ⟨go5,(x5_1:Int).toNat * 3,none⟩=false:=hfr5 0;have hf5_1:wr.frozen? ⟨go5,(x5_1:Int).toNat * 3+1,none⟩=false:=hfr5 1;have hf5_2:wr.frozen? ⟨go5,(x5_1:Int).toNat * 3+2,none⟩=false:=hfr5 2;(try clear hcl5);(try clear hcc5);(try clear hfr5);(try clear hM5);replace p5:=eq_true p5;replace q5:=eq_true q5;have HX10:=Aside0.mk (show Kd.R k63 63 wr w0.heap.size (fun k_=>(P0_ k_∨w.heap.size≤k_)) (.slice (some ⟨go5,0,none⟩) x0_1.length co9) x0_1 from (Kd.Rp HO_0.out));obtain ⟨ce10,hcl10,hM10,hcc10,hfr10⟩:=Kd.R_elem HX10.out z63 (x5_1:Int) (of_decide_eq_true qz4) (by have h_:(x5_1:Int)<((x0_1.length:Int):Int):=of_decide_eq_true qz4;first|exact h_|(have e_:=(Kd.R_reads' HO_0.out).1;omega)|simpa using h_);obtain rfl:=k63_openM hM10;have HP10:=Kd.R_seg HX10.out (x5_1:Int) (of_decide_eq_true qz4) (by have h_:(x5_1:Int)<((x0_1.length:Int):Int):=of_decide_eq_true qz4;first|exact h_|(have e_:=(Kd.R_reads' HO_0.out).1;omega)|simpa using h_) (seg:=[.int .i64 x1_1]) (j:=0) hcl10 hcc10 (show 1≤3 from by decide) (x':=(⟨x1_1,(rd_T63 x0_1 x5_1).f1,(rd_T63 x0_1 x5_1).f2⟩:S63)) (k63_mkM _ _ _ (⟨x1_1,(rd_T63 x0_1 x5_1).f1,(rd_T63 x0_1 x5_1).f2⟩:S63) ) (fun _ hk=>hk);have hx10_0:=hcc10 0 _ rfl;(try simp only [show (k63).sz=3 from rfl,Nat.mul_one,Nat.add_zero] at hx10_0);have hf10_0:=hfr10 0;(try simp only [show (k63).sz=3 from rfl,Nat.mul_one,Nat.add_zero] at hf10_0);(try clear hcl10);(try clear hcc10);(try clear hfr10);(try clear hM10)
     go_wp2_with (first|((with_reducible refine gate_store (t:=3) (p:=16) rfl ?_);refine store_event (t:=3) (p:=16) (v:=?vo_w11) (w1:=(wr.setCell ⟨go5,(x5_1:Int).toNat * 3,none⟩ (.int .i64 x1_1))) ?hg ?ho ?hn ?hr ?_;(case ho=>rfl);(case hg=>rfl);(case hn=>rfl);(case hr=>first|(go_simp;done)|(go_simp;rfl));intro w11 hw;have hg:wr.grownBy w11 (some go5):=(by rw [hw];exact HP10.2);have hp_:Kd.R k63 63 w11 w0.heap.size (fun k_=>(P0_ k_∨w.heap.size≤k_)) (.slice (some ⟨go5,0,none⟩) x0_1.length co9) y378:=(by rw [hw,Ny378.out];exact HP10.1);clear HP10;have n_:=as3 (hp_) ((by rw [hw];exact below_set (HB.out) GB5.out:Below w0.heap.size w0 w11)) (Kept.of_grown (S:=(fun k_=>P0_ k_)) hg qz36 (fun k_ e_=>(HO_0.out.1 k_ e_)));clear HO_0 HB HK;obtain ⟨HO_0,HB,HK⟩:=n_;clear hg hw hp_;have p6:0≤(x5_1:Int):=of_decide_eq_true qz4;have q6:(x5_1:Int)<((x0_1.length:Int):Int):=of_decide_eq_true qz4;obtain ⟨ce6,hcl6,hM6,hcc6,hfr6⟩:=Kd.R_elem HO_0.out z63 (x5_1:Int) p6 q6;obtain rfl:=k63_openM hM6;have hx6_0:w11.cell? ⟨go5,(x5_1:Int).toNat * 3,none⟩=some (.int .i64 ((rd_T63 y378 x5_1).f0)):=hcc6 0 _ rfl;have hx6_1:w11.cell? ⟨go5,(x5_1:Int).toNat * 3+1,none⟩=some (.int .i64 ((rd_T63 y378 x5_1).f1)):=hcc6 1 _ rfl;have hx6_2:w11.cell? ⟨go5,(x5_1:Int).toNat * 3+2,none⟩=some (.string ((rd_T63 y378 x5_1).f2)):=hcc6 2 _ rfl;have hf6_0:w11.frozen? ⟨go5,(x5_1:Int).toNat * 3,none⟩=false:=hfr6 0;have hf6_1:w11.frozen? ⟨go5,(x5_1:Int).toNat * 3+1,none⟩=false:=hfr6 1;have hf6_2:w11.frozen? ⟨go5,(x5_1:Int).toNat * 3+2,none⟩=false:=hfr6 2;(try clear hcl6);(try clear hcc6);(try clear hfr6);(try clear hM6);replace p6:=eq_true p6;replace q6:=eq_true q6;have HX12:=Aside0.mk (show Kd.R k63 63 w11 w0.heap.size (fun k_=>(P0_ k_∨w.heap.size≤k_)) (.slice (some ⟨go5,0,none⟩) x0_1.length co9) y378 from (Kd.Rp HO_0.out));obtain ⟨ce12,hcl12,hM12,hcc12,hfr12⟩:=Kd.R_elem HX12.out z63 (x5_1:Int) (of_decide_eq_true qz4) (by have h_:(x5_1:Int)<((x0_1.length:Int):Int):=of_decide_eq_true qz4;first|exact h_|(have e_:=(Kd.R_reads' HO_0.out).1;omega)|simpa using h_);obtain rfl:=k63_openM hM12;have HP12:=Kd.R_seg HX12.out (x5_1:Int) (of_decide_eq_true qz4) (by have h_:(x5_1:Int)<((x0_1.length:Int):Int):=of_decide_eq_true qz4;first|exact h_|(have e_:=(Kd.R_reads' HO_0.out).1;omega)|simpa using h_) (seg:=[.int .i64 (wrap64 (x1_1+1))]) (j:=1) hcl12 hcc12 (show 2≤3 from by decide) (x':=(⟨(rd_T63 y378 x5_1).f0,wrap64 (x1_1+1),(rd_T63 y378 x5_1).f2⟩:S63)) (k63_mkM _ _ _ (⟨(rd_T63 y378 x5_1).f0,wrap64 (x1_1+1),(rd_T63 y378 x5_1).f2⟩:S63) ) (fun _ hk=>hk);have hx12_1:=hcc12 1 _ rfl;(try simp only [show (k63).sz=3 from rfl,Nat.mul_one,Nat.add_zero] at hx12_1);have hf12_1:=hfr12 1;(try simp only [show (k63).sz=3 from rfl,Nat.mul_one,Nat.add_zero] at hf12_1);clear hcl12 hcc12 hfr12 hM12)|((with_reducible refine gate_store (t:=3) (p:=23) rfl ?_);refine store_event (t:=3) (p:=23) (v:=?vo_w13) (w1:=(w11.setCell ⟨go5,(x5_1:Int).toNat * 3+1,none⟩ (.int .i64 (wrap64 (x1_1+1))))) ?hg ?ho ?hn ?hr ?_;(case ho=>rfl);(case hg=>rfl);(case hn=>rfl);(case hr=>first|(go_simp;done)|(go_simp;rfl));intro w13 hw;have hg:w11.grownBy w13 (some go5):=(by rw [hw];exact HP12.2);have hp_:Kd.R k63 63 w13 w0.heap.size (fun k_=>(P0_ k_∨w.heap.size≤k_)) (.slice (some ⟨go5,0,none⟩) x0_1.length co9) y379:=(by rw [hw,Ny379.out];exact HP12.1);clear HP12;have n_:=as3 (hp_) ((by rw [hw];exact below_set (HB.out) GB5.out:Below w0.heap.size w0 w13)) (Kept.of_grown (S:=(fun k_=>P0_ k_)) hg qz36 (fun k_ e_=>(HO_0.out.1 k_ e_)));clear HO_0 HB HK;obtain ⟨HO_0,HB,HK⟩:=n_;clear hg hw hp_)|(go_at_call 55;(with_reducible refine (laws_markText.calls k1 (wrap64 ((wrap64 (x1_1+1))+1)) t380 _ A7.out).mono ?_);rintro e w14 ⟨rfl,hb⟩;have n_:=as3 (Kd.R_below (Kd.Rp HO_0.out) hb) (Kept.below (S:=(fun k_=>P0_ k_)) qz36 hb) (below_step qz3 hb);clear HO_0 HK HB;obtain ⟨HO_0,HK,HB⟩:=n_;clear hb;have p8:0≤(x5_1:Int):=of_decide_eq_true qz4;have q8:(x5_1:Int)<((x0_1.length:Int):Int):=of_decide_eq_true qz4;obtain ⟨ce8,hcl8,hM8,hcc8,hfr8⟩:=Kd.R_elem HO_0.out z63 (x5_1:Int) p8 q8;obtain rfl:=k63_openM hM8;have hx8_0:w14.cell? ⟨go5,(x5_1:Int).toNat * 3,none⟩=some (.int .i64 ((rd_T63 y379 x5_1).f0)):=hcc8 0 _ rfl;have hx8_1:w14.cell? ⟨go5,(x5_1:Int).toNat * 3+1,none⟩=some (.int .i64 ((rd_T63 y379 x5_1).f1)):=hcc8 1 _ rfl;have hx8_2:w14.cell? ⟨go5,(x5_1:Int).toNat * 3+2,none⟩=some (.string ((rd_T63 y379 x5_1).f2)):=hcc8 2 _ rfl;have hf8_0:w14.frozen? ⟨go5,(x5_1:Int).toNat * 3,none⟩=false:=hfr8 0;have hf8_1:w14.frozen? ⟨go5,(x5_1:Int).toNat * 3+1,none⟩=false:=hfr8 1;have hf8_2:w14.frozen? ⟨go5,(x5_1:Int).toNat * 3+2,none⟩=false:=hfr8 2;(try clear hcl8);(try clear hcc8);(try clear hfr8);(try clear hM8);replace p8:=eq_true p8;replace q8:=eq_true q8;have HX15:=Aside0.mk (show Kd.R k63 63 w14 w0.heap.size (fun k_=>(P0_ k_∨w.heap.size≤k_)) (.slice (some ⟨go5,0,none⟩) x0_1.length co9) y379 from (Kd.Rp HO_0.out));obtain ⟨ce15,hcl15,hM15,hcc15,hfr15⟩:=Kd.R_elem HX15.out z63 (x5_1:Int) (of_decide_eq_true qz4) (by have h_:(x5_1:Int)<((x0_1.length:Int):Int):=of_decide_eq_true qz4;first|exact h_|(have e_:=(Kd.R_reads' HO_0.out).1;omega)|simpa using h_);obtain rfl:=k63_openM hM15;have HP15:=Kd.R_seg HX15.out (x5_1:Int) (of_decide_eq_true qz4) (by have h_:(x5_1:Int)<((x0_1.length:Int):Int):=of_decide_eq_true qz4;first|exact h_|(have e_:=(Kd.R_reads' HO_0.out).1;omega)|simpa using h_) (seg:=[.string t380]) (j:=2) hcl15 hcc15 (show 3≤3 from by decide) (x':=(⟨(rd_T63 y379 x5_1).f0,(rd_T63 y379 x5_1).f1,t380⟩:S63)) (k63_mkM _ _ _ (⟨(rd_T63 y379 x5_1).f0,(rd_T63 y379 x5_1).f1,t380⟩:S63) ) (fun _ hk=>hk);have hx15_2:=hcc15 2 _ rfl;(try simp only [show (k63).sz=3 from rfl,Nat.mul_one,Nat.add_zero] at hx15_2);have hf15_2:=hfr15 2;(try simp only [show (k63).sz=3 from rfl,Nat.mul_one,Nat.add_zero] at hf15_2);clear hcl15 hcc15 hfr15 hM15)|((with_reducible refine gate_store (t:=9) (p:=31) rfl ?_);refine store_event (t:=9) (p:=31) (v:=?vo_w16) (w1:=(w14.setCell ⟨go5,(x5_1:Int).toNat * 3+2,none⟩ (.string t380))) ?hg ?ho ?hn ?hr ?_;(case ho=>rfl);(case hg=>rfl);(case hn=>rfl);(case hr=>first|(go_simp;done)|(go_simp;rfl));intro w16 hw;have hg:w14.grownBy w16 (some go5):=(by rw [hw];exact HP15.2);have hp_:Kd.R k63 63 w16 w0.heap.size (fun k_=>(P0_ k_∨w.heap.size≤k_)) (.slice (some ⟨go5,0,none⟩) x0_1.length co9) y381:=(by rw [hw,Ny381.out];exact HP15.1);clear HP15;have n_:=as3 (hp_) ((by rw [hw];exact below_set (HB.out) GB5.out:Below w0.heap.size w0 w16)) (Kept.of_grown (S:=(fun k_=>P0_ k_)) hg qz36 (fun k_ e_=>(HO_0.out.1 k_ e_)));clear HO_0 HB HK;obtain ⟨HO_0,HB,HK⟩:=n_;clear hg hw hp_))
     go_roundg k1
     case measure=>have:=HK1.out;omega
     case rel=>exact ⟨(y381),(wrap64 ((wrap64 ((wrap64 (x1_1+1))+1))+1)),(wrap64 (x5_1+1)),qz5,qz5,H',⟨by have:=HK1.out;omega⟩,⟨Kd.Rp HO_0.out⟩,⟨qz36⟩,⟨qz1⟩⟩
    ·rw [if_neg c4] at H
     exact absurd H (by simp)
   ·rw [if_neg c3] at H
    have c3b0:decide (x5_1<(x0_1.length:Int))=false:=decide_eq_false c3;clear c3;simp only [Option.some.injEq,Prod.mk.injEq] at H;obtain ⟨rfl,rfl⟩:=H;obtain ⟨Ao17,co17,eo17⟩:=Kd.R_slice HO_0.out;subst eo17;go_wp2;go_ret;exact ⟨qz2,by (with_reducible repeat (first|apply Kd.R_alloc|apply Kd.R_drewN|apply Kd.R_drew));exact HO_0.out,qz1,qz36⟩

/-! ### laws_markPrgGoalS: function 50 -/
/-- marks: each goal's kind, and the places of its rows, one behind the other -/
def laws_markPrgGoalS.l0:Nat→List (S24)→Int→Int→Option (Int × (List (S24)))
 | 0,_,_,_=>none
 | k+1,x,m,i=>if i<(x.length:Int) then (if 0≤i then (laws_markTrmCellS.f k (rd_T24 x i).f1 (wrap64 (m+1))).bind fun a=>(laws_markTrmCellS.f k (rd_T24 x i).f2 a.1).bind fun b=>(laws_markTrmCellS.f k (rd_T24 x i).f3 b.1).bind fun c=>laws_markPrgGoalS.l0 k (x.set i.toNat ⟨m,a.2,b.2,c.2⟩) c.1 (wrap64 (i+1)) else none) else some (m,x)
def laws_markPrgGoalS.f (k:Nat) (l0:List (S24)) (a1:Int):Option (Int × (List (S24))):=laws_markPrgGoalS.l0 k l0 a1 0
theorem rdG_set {x:List Cat.Goal} {i:Int} (y:Cat.Goal) (h0:0≤i) (h1:i<(x.length:Int)):rd_T24 (x.set i.toNat y) i=y:=by
 unfold rd_T24;rw [List.getD_eq_getElem?_getD,List.getElem?_set_self (by omega)];rfl
/-- element i of goals that are the call's own, lent -/
theorem goal_lend {W:World} {base g n cap:Nat} {P:Nat→Prop} {x:List Cat.Goal} {i:Int} (hS:Kd.S kA 24 W base P (.slice (some ⟨g,0,none⟩) n cap) x) (h0:0≤i) (h1:i<n) :
  ∃ (oki:Nat→Prop) (v1 v2 v3:Value),(∀ k,oki k→P k∧k≠g)∧W.cell? ⟨g,i.toNat * 4,none⟩=some (.int .i64 (rd_T24 x i).f0)∧W.cell? ⟨g,i.toNat * 4+1,none⟩=some v1∧W.cell? ⟨g,i.toNat * 4+2,none⟩=some v2∧W.cell? ⟨g,i.toNat * 4+3,none⟩=some v3∧W.frozen? ⟨g,i.toNat * 4,none⟩=false∧
   kA.M W base oki (rd_T24 x i) [.int .i64 (rd_T24 x i).f0,v1,v2,v3]∧
   (∀ m:Int,Kd.S kA 24 (W.setCell ⟨g,i.toNat * 4,none⟩ (.int .i64 m)) base P (.slice (some ⟨g,0,none⟩) n cap) (x.set i.toNat ⟨m,(rd_T24 x i).f1,(rd_T24 x i).f2,(rd_T24 x i).f3⟩)∧W.grownBy (W.setCell ⟨g,i.toNat * 4,none⟩ (.int .i64 m)) (some g))∧
   (∀ (W':World) (y:Cat.Goal),Kept W W' oki→kA.M W' base oki y [.int .i64 (rd_T24 x i).f0,v1,v2,v3]→Kd.S kA 24 W' base P (.slice (some ⟨g,0,none⟩) n cap) (x.set i.toNat y)):=by
 obtain ⟨oki,c,hcl,hM,hcc,hfr,hoki,hH⟩:=Kd.S_elem hS z24 i h0 h1;have hM':kA.M W base oki (rd_T24 x i) c:=hM;obtain ⟨v1,v2,v3,rfl,hR1,hR2,hR3⟩:=hM';refine ⟨oki,v1,v2,v3,hoki,hcc 0 _ rfl,hcc 1 _ rfl,hcc 2 _ rfl,hcc 3 _ rfl,hfr 0,⟨v1,v2,v3,rfl,hR1,hR2,hR3⟩,fun m=>?_,fun W' y hk hy=>?_⟩
 ·exact Kd.S_seg0 hH h0 h1 (seg:=[.int .i64 m]) (j:=0) (show 1≤4 from by decide) (x':=(⟨m,(rd_T24 x i).f1,(rd_T24 x i).f2,(rd_T24 x i).f3⟩:S24)) (okp:=oki) ⟨v1,v2,v3,rfl,hR1,hR2,hR3⟩ (fun _ hk=>hk)
 ·exact Kd.H_back (Kd.H_kept hH hk (fun k _ hn hs=>hn hs)) hy (fun _ hk=>hk)
/-- the kind of element i marked: what is lent then -/
theorem goal_mark {W:World} {base g n cap:Nat} {P:Nat→Prop} {x:List Cat.Goal} {i:Int} (hS:Kd.S kA 24 W base P (.slice (some ⟨g,0,none⟩) n cap) x) (h0:0≤i) (h1:i<n) (m:Int) :
  W.grownBy (W.setCell ⟨g,i.toNat * 4,none⟩ (.int .i64 m)) (some g)∧∃ (oki:Nat→Prop) (v1 v2 v3:Value),(∀ k,oki k→P k∧k≠g)∧(W.setCell ⟨g,i.toNat * 4,none⟩ (.int .i64 m)).cell? ⟨g,i.toNat * 4+1,none⟩=some v1∧(W.setCell ⟨g,i.toNat * 4,none⟩ (.int .i64 m)).cell? ⟨g,i.toNat * 4+2,none⟩=some v2∧(W.setCell ⟨g,i.toNat * 4,none⟩ (.int .i64 m)).cell? ⟨g,i.toNat * 4+3,none⟩=some v3∧
   Kd.R k63 63 (W.setCell ⟨g,i.toNat * 4,none⟩ (.int .i64 m)) base (fun k=>oki k∧some k≠v2.ownBlock∧some k≠v3.ownBlock) v1 (rd_T24 x i).f1∧
   Kd.R k63 63 (W.setCell ⟨g,i.toNat * 4,none⟩ (.int .i64 m)) base (fun k=>oki k∧some k≠v1.ownBlock∧some k≠v3.ownBlock) v2 (rd_T24 x i).f2∧
   Kd.R k63 63 (W.setCell ⟨g,i.toNat * 4,none⟩ (.int .i64 m)) base (fun k=>oki k∧some k≠v1.ownBlock∧some k≠v2.ownBlock) v3 (rd_T24 x i).f3∧
   ∀ (W':World) (y:Cat.Goal),Kept (W.setCell ⟨g,i.toNat * 4,none⟩ (.int .i64 m)) W' oki→kA.M W' base oki y [.int .i64 m,v1,v2,v3]→Kd.S kA 24 W' base P (.slice (some ⟨g,0,none⟩) n cap) (x.set i.toNat y):=by
 obtain ⟨_,_,_,_,_,_,_,_,_,_,_,hput,_⟩:=goal_lend hS h0 h1;obtain ⟨hS1,hg⟩:=hput m;have hn:=(Kd.S_reads' hS).1;obtain ⟨oki,v1,v2,v3,hoki,_,hx1,hx2,hx3,_,hM,_,hback⟩:=goal_lend hS1 h0 h1;rw [rdG_set _ h0 (by omega)] at hM hback;obtain ⟨u1,u2,u3,he,hR1,hR2,hR3⟩:=hM
 obtain ⟨_,rfl,rfl,rfl⟩:True∧v1=u1∧v2=u2∧v3=u3:=by
  injection he with _ he
  injection he with e1 he
  injection he with e2 he
  injection he with e3 _
  exact ⟨trivial,e1,e2,e3⟩
 refine ⟨hg,oki,v1,v2,v3,hoki,hx1,hx2,hx3,hR1,hR2,hR3,fun W' y hk hy=>?_⟩;have:=hback W' y hk hy
 rwa [List.set_set] at this
/-- a cell of a block that is not written -/
theorem kept_cell {W W':World} {S:Nat→Prop} {g j:Nat} {v:Value} (hk:Kept W W' S) (hg:g<W.heap.size) (hs:¬ S g) (h:W.cell? ⟨g,j,none⟩=some v):W'.cell? ⟨g,j,none⟩=some v:=by
 have:=hk.2 g hg hs;simp only [World.cell?] at h ⊢;rw [this];exact h
set_option maxHeartbeats 8000000 in
set_option maxRecDepth 100000 in
theorem laws_markPrgGoalS.calls (k:Nat) (P0_:Nat→Prop) (v:Value) (l0:List (S24)) (a1:Int) (r1:Int) (r2:List (S24)) (w0 w:World) (hB:Below w0.heap.size w0 w) (ho0:Kd.S kA 24 w w0.heap.size P0_ v l0) (h:laws_markPrgGoalS.f k l0 a1=some (r1,r2)) :
  Calls Tryz.prog 50 #[v,.int .i64 a1] w fun e w'=>e = .returned (.int .i64 r1)∧Kd.S kA 24 w' w0.heap.size P0_ v r2∧Below w0.heap.size w0 w'∧Kept w w' (fun k_=>P0_ k_):=by
 have HS:=Aside0.mk ho0;have HB:=Aside0.mk hB;have HK:=Aside0.mk (Kept.refl w (fun k_=>P0_ k_));have HF:=Aside0.mk (show laws_markPrgGoalS.l0 k l0 a1 0=some (r1,r2) from h);obtain ⟨Av,cv,ev⟩:=Kd.S_slice ho0;subst ev;clear ho0 hB h;go_enter Tryz.func50,Tryz.ntmps50;go_wp2
 go_loopg [1,5] k (fun gg v1 v5 wr=>∃ (x:List Cat.Goal) (m i:Int),v1 = .int .i64 m∧v5 = .int .i64 i∧Aside0 (Kd.S kA 24 wr w0.heap.size P0_ (.slice Av l0.length cv) x)∧Aside0 (Below w0.heap.size w0 wr)∧Aside0 (Kept w wr (fun k_=>P0_ k_))∧Aside0 (laws_markPrgGoalS.l0 gg x m i=some (r1,r2)))
 case atStart=>exact ⟨l0,a1,0,rfl,rfl,HS,HB,HK,HF⟩
 case round=>
  clear HS HB HK HF;obtain ⟨x,m,i,rfl,rfl,HS,HB,HK,HF⟩:=hrel;have hxl:=(Kd.S_reads' HS.out).1;have HXL:=Aside0.mk hxl;cases gk with
  | zero=>exact absurd HF.out (by simp [laws_markPrgGoalS.l0])
  | succ gk=>
   have h:=HF.out;rw [laws_markPrgGoalS.l0,← hxl] at h;clear hxl;by_cases hi:i<(l0.length:Int)
   ·rw [if_pos hi] at h
    by_cases h0:0≤i
    case neg=>rw [if_neg h0] at h;cases h
    rw [if_pos h0] at h;obtain ⟨⟨m2,t1⟩,h1,h⟩:=Option.bind_eq_some_iff.1 h;obtain ⟨⟨m3,t2⟩,h2,h⟩:=Option.bind_eq_some_iff.1 h;obtain ⟨⟨m4,t3⟩,h3,h4⟩:=Option.bind_eq_some_iff.1 h;have H1:=Aside0.mk h1;have H2:=Aside0.mk h2;have H3:=Aside0.mk h3;have H4:=Aside0.mk h4;clear h h1 h2 h3 h4 HF;obtain ⟨g,cap,ev,hgb,hgl,_⟩:=Kd.S_form HS.out (by have:=HXL.out;omega);injection ev with ea en ec
    subst ea ec;clear en;obtain ⟨_,_,_,_,_,hx0,_,_,_,hf0,_,_,_⟩:=goal_lend HS.out h0 hi;have HM:=Aside0.mk (goal_mark HS.out h0 hi m);have HG:=Aside0.mk (show P0_ g from (Kd.S_R HS.out).1 g (by simp [Value.ownBlock]));have HGB:=Aside0.mk hgb;have HGL:=Aside0.mk hgl;clear hgb hgl
    go_wp2_with (first
     | ((with_reducible refine gate_store (t:=3) (p:=16) rfl ?_);refine store_event (t:=3) (p:=16) (v:=?vo_w1) (w1:=(wr.setCell ⟨g,i.toNat * 4,none⟩ (.int .i64 m))) ?hg ?ho ?hn ?hr ?_;(case ho=>rfl);(case hg=>rfl);(case hn=>rfl);(case hr=>first|(go_simp;done)|(go_simp;rfl));intro w1 hw;have hm:=HM.out;have HB1:=Aside0.mk (show Below w0.heap.size w0 w1 from by rw [hw];exact below_set HB.out HGB.out);have HL1:=Aside0.mk (show g<w1.heap.size from by rw [hw];exact Nat.lt_of_lt_of_le HGL.out hm.1.size);rw [← hw] at hm;obtain ⟨hg1,oki,v1,v2,v3,hoki,hx1,hx2,hx3,hR1,hR2,hR3,hback⟩:=hm;have HK1:=Aside0.mk (Kept.of_grown (S:=(fun k_=>P0_ k_)) hg1 HK.out (fun k e=>.inl (by injection e with e;subst e;exact HG.out)));have HO:=Aside0.mk hoki;have HR1:=Aside0.mk (Kd.R_tight2 rfl hR1);have HR2:=Aside0.mk (Kd.R_tight2 rfl hR2);have HR3:=Aside0.mk (Kd.R_tight2 rfl hR3);have HBK:=Aside0.mk hback;have HX2:=Aside0.mk hx2;have HX3:=Aside0.mk hx3;clear hw hoki hR1 hR2 hR3 hback hg1 HM hx0 hf0 HS hx2 hx3)
     | (go_at_call 29;(with_reducible refine (laws_markTrmCellS.calls gk (fun k=>some k=v1.ownBlock∧oki k∧some k≠v2.ownBlock∧some k≠v3.ownBlock) v1 _ (wrap64 (m+1)) m2 t1 w0 w1 HB1.out HR1.out H1.out).mono ?_);rintro e w2 ⟨rfl,hr2,hb2,hk2⟩;have hx2:=kept_cell hk2 HL1.out (fun h_=>(HO.out _ h_.2.1).2 rfl) HX2.out;have HX3b:=Aside0.mk (kept_cell hk2 HL1.out (fun h_=>(HO.out _ h_.2.1).2 rfl) HX3.out);have HL2:=Aside0.mk (Nat.lt_of_lt_of_le HL1.out hk2.1);have HR1b:=Aside0.mk (Kd.R_reok rfl hr2 HR1.out.1);have HR2b:=Aside0.mk (Kd.R_kept HR2.out hk2 (fun k hk hs=>hk.2.2.1 hs.1));have HR3b:=Aside0.mk (Kd.R_kept HR3.out hk2 (fun k hk hs=>hk.2.2.1 hs.1));have HB2:=Aside0.mk hb2;have HKA:=Aside0.mk (hk2.mono (S':=oki) (fun k hk=>hk.2.1));clear hr2 hb2 hk2 HX2 HX3 HR1 HR2 HR3 hx1)
     | (go_at_call 29;(with_reducible refine (laws_markTrmCellS.calls gk (fun k=>some k=v2.ownBlock∧oki k∧some k≠v1.ownBlock∧some k≠v3.ownBlock) v2 _ m2 m3 t2 w0 w2 HB2.out HR2b.out H2.out).mono ?_);rintro e w3 ⟨rfl,hr2,hb2,hk2⟩;have hx3:=kept_cell hk2 HL2.out (fun h_=>(HO.out _ h_.2.1).2 rfl) HX3b.out;have HR1c:=Aside0.mk (Kd.R_kept HR1b.out hk2 (fun k hk hs=>hk.2.2.1 hs.1));have HR2c:=Aside0.mk (Kd.R_reok rfl hr2 HR2b.out.1);have HR3c:=Aside0.mk (Kd.R_kept HR3b.out hk2 (fun k hk hs=>hk.2.2.2 hs.1));have HB3:=Aside0.mk hb2;have HKB:=Aside0.mk (HKA.out.then_ hk2 (fun k hk=>.inl hk.2.1));clear hr2 hb2 hk2 HX3b HR1b HR2b HR3b hx2 HKA)
     | (go_at_call 29;(with_reducible refine (laws_markTrmCellS.calls gk (fun k=>some k=v3.ownBlock∧oki k∧some k≠v1.ownBlock∧some k≠v2.ownBlock) v3 _ m3 m4 t3 w0 w3 HB3.out HR3c.out H3.out).mono ?_);rintro e w4 ⟨rfl,hr2,hb2,hk2⟩;have HKC:=Aside0.mk (HKB.out.then_ hk2 (fun k hk=>.inl hk.2.1));have HS4:=Aside0.mk (HBK.out w4 (⟨m,t1,t2,t3⟩:S24) HKC.out ⟨v1,v2,v3,rfl,Kd.R_mono (Kd.R_kept HR1c.out hk2 (fun k hk hs=>hk.2.2.2 hs.1)) (fun k hk=>hk.2),Kd.R_mono (Kd.R_kept HR2c.out hk2 (fun k hk hs=>hk.2.2.2 hs.1)) (fun k hk=>hk.2),Kd.R_mono (Kd.R_reok rfl hr2 HR3c.out.1) (fun k hk=>hk.2)⟩);have HB4:=Aside0.mk hb2;have HK4:=Aside0.mk (HK1.out.then_ HKC.out (fun k hk=>.inl (HO.out k hk).1));clear hr2 hb2 hk2 hx3))
    go_roundg gk
    case measure=>omega
    case rel=>exact ⟨x.set i.toNat ⟨m,t1,t2,t3⟩,m4,wrap64 (i+1),rfl,by go_num,HS4,HB4,HK4,H4⟩
   ·rw [if_neg hi] at h
    injection h with h
    injection h with h1 h2
    subst h1 h2;clear HF;go_wp2;go_ret;exact ⟨rfl,HS.out,HB.out,HK.out⟩

/-! ### laws_markPrgClause: function 22 -/
/-- marks in a clause: its head's places, then its goals -/
def laws_markPrgClause.f (k:Nat) (l0:List (S63)) (l1:List (S24)) (a1:Int):Option (Int × (List (S63)) × (List (S24))):=
 (laws_markTrmCellS.f k l0 a1).bind fun m=>(laws_markPrgGoalS.f k l1 m.1).bind fun n=>some (n.1,m.2,n.2)
set_option maxHeartbeats 8000000 in
set_option maxRecDepth 100000 in
theorem laws_markPrgClause.calls (k:Nat) (P0_ P1_:Nat→Prop) (v0 v1:Value) (l0:List (S63)) (l1:List (S24)) (a1 r1:Int) (r2:List (S63)) (r3:List (S24)) (w0 w:World) (hB:Below w0.heap.size w0 w) (ho0:Kd.R k63 63 w w0.heap.size P0_ v0 l0) (ho1:Kd.S kA 24 w w0.heap.size P1_ v1 l1) (hap:∀ k,v0.ownBlock=some k→¬ P1_ k) (h:laws_markPrgClause.f k l0 l1 a1=some (r1,r2,r3)) :
  Calls Tryz.prog 22 #[.agg #[v0,v1],.int .i64 a1] w fun e w'=>e = .returned (.int .i64 r1)∧Kd.R k63 63 w' w0.heap.size P0_ v0 r2∧Kd.S kA 24 w' w0.heap.size P1_ v1 r3∧Below w0.heap.size w0 w'∧Kept w w' (fun k_=>P0_ k_∨P1_ k_):=by
 unfold laws_markPrgClause.f at h;obtain ⟨⟨m,t⟩,h1,h2⟩:=Option.bind_eq_some_iff.1 h;obtain ⟨⟨n,u⟩,h3,h4⟩:=Option.bind_eq_some_iff.1 h2;simp only [Option.some.injEq,Prod.mk.injEq] at h4;obtain ⟨rfl,rfl,rfl⟩:=h4;have H1:=Aside0.mk h1;have H3:=Aside0.mk h3;have HB:=Aside0.mk hB;have HP:=Aside0.mk hap;have HO:=Aside0.mk (Kd.R_tight2 rfl ho0);have HS:=Aside0.mk (Kd.S_mono (Kd.S_bound ho1) (ok':=fun k=>P1_ k∧k<w.heap.size) (fun k hk=>⟨hk.1,hk.2.2.1⟩));have HK:=Aside0.mk (Kept.refl w (fun k_=>P0_ k_∨P1_ k_));have HW:=Aside0.mk ho0.1;have hu:=Tryz.underlying39;obtain ⟨A0,c0,e0⟩:=Kd.R_slice ho0;obtain ⟨A1,c1,e1⟩:=Kd.S_slice ho1;subst e0 e1;clear h h1 h2 h3 hB ho0 ho1 hap;go_enter Tryz.func22,Tryz.ntmps22
 go_wp2_with (first
  | ((with_reducible refine gate_dst (N:=2) rfl ?_);refine box_event ?hg (N:=2) ?hd (cs:=#[.slice A0 l0.length c0,.slice A1 l1.length c1]) (t:=39) ?hr ?_;(case hd=>rfl);(case hg=>rfl);(case hr=>first|(go_simp;done)|(go_simp;rfl));intro gb hg w5 hbox hb;have n0_:=Aside0.mk (Kd.R_below HO.out hb);have n1_:=Aside0.mk (Kd.S_below HS.out hb);have n2_:=Aside0.mk (HB.out.trans (hb.mono HB.out.size));have n3_:=Aside0.mk (HK.out.below hb);have BK:=Aside0.mk hbox;have HGL:=Aside0.mk (blk_lt hbox);have HGE:=Aside0.mk ((by rw [hg];exact Nat.le_refl _):w.heap.size≤gb);have HNE:=Aside0.mk (Kd.R_ne n0_.out hbox (by decide));clear HO HS HB HK hbox hb hg;have HO:=n0_;have HS:=n1_;have HB:=n2_;have HK:=n3_;clear n0_ n1_ n2_ n3_;have hx0:w5.cell? ⟨gb,0,none⟩=some (.slice A0 l0.length c0):=(blk_cell BK.out 0).trans rfl;have hx1:w5.cell? ⟨gb,1,none⟩=some (.slice A1 l1.length c1):=(blk_cell BK.out 1).trans rfl;have hf0:=blk_frozen BK.out 0;have hf1:=blk_frozen BK.out 1)
  | (go_at_call 29;(with_reducible refine (laws_markTrmCellS.calls k (fun k=>some k=(Value.slice A0 l0.length c0).ownBlock∧P0_ k) _ _ a1 m t w0 w5 HB.out HO.out H1.out).mono ?_);rintro e w6 ⟨rfl,hr,hb,hk⟩;have n0_:=Aside0.mk (Kd.R_reok rfl hr HO.out.1);have n1_:=Aside0.mk (Kd.S_kept HS.out hk (fun k hp hs=>HP.out k hs.1.symm hp.1));have n2_:=Aside0.mk hb;have n3_:=Aside0.mk (HK.out.then_ hk (fun k hs=>.inl (.inl hs.2)));have hx1:=kept_cell hk HGL.out (fun hs=>HNE.out hs.1) hx1;clear HO HS HB HK hr hb hk hx0 hf0 hf1;have HO:=n0_;have HS:=n1_;have HB:=n2_;have HK:=n3_;clear n0_ n1_ n2_ n3_)
  | (go_at_call 50;(with_reducible refine (laws_markPrgGoalS.calls k (fun k=>P1_ k∧k<w.heap.size) _ _ m n u w0 w6 HB.out HS.out H3.out).mono ?_);rintro e w7 ⟨rfl,hr,hb,hk⟩;have n_:=as4 (Kd.R_kept HO.out hk (fun k hp hs=>HP.out k hp.1.symm hs.1)) hr hb (HK.out.then_ hk (fun k hs=>.inl (.inr hs.1)));clear HO HS HB HK hr hb hk hx1;obtain ⟨HO,HS,HB,HK⟩:=n_))
 go_ret;exact ⟨rfl,Kd.R_mono HO.out (fun k hk=>hk.2),Kd.S_mono HS.out (fun k hk=>hk.1),HB.out,HK.out⟩

/-! ### laws_heldTrmCellS: function 30 -/
def laws_heldTrmCellS.l0:Nat→List (S63)→Int→Int→Option (Int)
 | 0,_,_,_=>none
 | k+1,x0,x1,x5=>if x5<(x0.length:Int) then (if 0≤x5 then (if ((rd_T63 x0 x5).f0)=x1 then (if ((rd_T63 x0 x5).f1)=(wrap64 (x1+1)) then ((laws_markText.f k (wrap64 ((wrap64 (x1+1))+1))).bind fun t385=>(if ((rd_T63 x0 x5).f2).toList=t385.toList then (laws_heldTrmCellS.l0 k x0 (wrap64 ((wrap64 ((wrap64 (x1+1))+1))+1)) (wrap64 (x5+1))) else (some (-1)))) else (some (-1))) else (some (-1))) else (none)) else (some x1)
def laws_heldTrmCellS.f (k:Nat) (l0:List (S63)) (a1:Int):Option (Int):=laws_heldTrmCellS.l0 k l0 a1 0
def laws_heldTrmCellS.T10:Bool × List (List Nat × List Nat):=(true,[([],[]),([],[]),([0,1],[0,1]),([2],[2]),([3],[3]),([],[]),([5],[5]),([4,6],[4,6])])
def laws_heldTrmCellS.B10:List Nat:=[0,0,3,7,15,0,32,127]
theorem laws_heldTrmCellS.tab10:rtab .any (opsOf Tryz.f30 10)=laws_heldTrmCellS.T10:=by kernel_rfl
theorem laws_heldTrmCellS.bits10:waitsOk laws_heldTrmCellS.T10.2 laws_heldTrmCellS.B10=true:=by kernel_rfl
set_option maxHeartbeats 8000000 in
set_option maxRecDepth 100000 in
theorem laws_heldTrmCellS.calls (k:Nat) (A0:Option Addr) (c0:Nat) (l0:List (S63)) (a1:Int) (r:Int) (w:World) (hr0:Kd.C k63 w A0 l0.length l0) (hc0:l0.length≤c0) (h:laws_heldTrmCellS.f k l0 a1=some r) :
  Calls Tryz.prog 30 #[.slice A0 l0.length c0,.int .i64 a1] w fun e w'=>e = .returned (.int .i64 r)∧Below w.heap.size w w':=by
 have HR0:=Aside0.mk hr0;have HC0:=Aside0.mk hc0;clear hr0 hc0;have HB:=Aside0.mk (Below.refl w.heap.size w);have H:(laws_heldTrmCellS.l0 k l0 a1 0)=some r:=h;clear h;have H':=Aside0.mk H;clear H;go_enter Tryz.func30,Tryz.ntmps30;go_wp2
 go_loopg [1,5] k (fun kq v1 v5 w'=>∃ (x1_1:Int) (x5_1:Int),v1 = .int .i64 x1_1∧v5 = .int .i64 x5_1∧Aside0 (laws_heldTrmCellS.l0 kq l0 x1_1 x5_1=some r)∧Aside0 (kq≤k)∧Aside0 (Below w.heap.size w w'))
 case atStart=>exact ⟨(a1),(0),qz5,qz5,H',⟨Nat.le_refl _⟩,⟨qz1⟩⟩
 case round=>
  clear H';obtain ⟨x1_1,x5_1,rfl,rfl,HA,HK1,HB⟩:=hrel;cases gk with
  | zero=>exact absurd HA.out (by simp [laws_heldTrmCellS.l0])
  | succ k1=>
   have H:=HA.out;clear HA;simp only [laws_heldTrmCellS.l0] at H;by_cases c3:x5_1<(l0.length:Int)
   ·rw [if_pos c3] at H
    have c3b0:decide (x5_1<(l0.length:Int))=true:=decide_eq_true c3;clear c3;by_cases c4:0≤x5_1
    ·rw [if_pos c4] at H
     have c4b0:decide (0≤x5_1)=true:=decide_eq_true c4;clear c4;by_cases c5:((rd_T63 l0 x5_1).f0)=x1_1
     ·rw [if_pos c5] at H
      have c5b0:(((rd_T63 l0 x5_1).f0) == x1_1)=true:=beq_iff_eq.mpr c5;have c5b1:(((rd_T63 l0 x5_1).f0) != x1_1)=false:=bne_eq_false_iff_eq.mpr c5;clear c5;by_cases c6:((rd_T63 l0 x5_1).f1)=(wrap64 (x1_1+1))
      ·rw [if_pos c6] at H
       have c6b0:(((rd_T63 l0 x5_1).f1) == (wrap64 (x1_1+1)))=true:=beq_iff_eq.mpr c6;have c6b1:(((rd_T63 l0 x5_1).f1) != (wrap64 (x1_1+1)))=false:=bne_eq_false_iff_eq.mpr c6;clear c6;replace H:=Option.bind_eq_some_iff.mp H;obtain ⟨t385,A70,H⟩:=H;(try dsimp only at H);have A7:=Aside0.mk A70;clear A70;have HC8:=Aside0.mk H;clear H;have p382:0≤(x5_1:Int):=of_decide_eq_true qz4;have q382:x5_1<(l0.length:Int):=of_decide_eq_true qz4;obtain ⟨ad382,e382,hx382_0,hx382_1,hx382_2⟩:=at_T63 HR0.out x5_1 p382 q382;cases e382
       replace hx382_0:=(HB.out.cell (World.block_lt_of_cell? w _ hx382_0)).trans hx382_0;replace hx382_1:=(HB.out.cell (World.block_lt_of_cell? w _ hx382_1)).trans hx382_1;replace hx382_2:=(HB.out.cell (World.block_lt_of_cell? w _ hx382_2)).trans hx382_2;replace p382:=eq_true p382;replace q382:=eq_true q382;have p383:0≤(x5_1:Int):=of_decide_eq_true qz4;have q383:x5_1<(l0.length:Int):=of_decide_eq_true qz4;obtain ⟨ad383,e383,hx383_0,hx383_1,hx383_2⟩:=at_T63 HR0.out x5_1 p383 q383;obtain rfl:ad382=ad383:=(by injection e383);replace hx383_0:=(HB.out.cell (World.block_lt_of_cell? w _ hx383_0)).trans hx383_0;replace hx383_1:=(HB.out.cell (World.block_lt_of_cell? w _ hx383_1)).trans hx383_1;replace hx383_2:=(HB.out.cell (World.block_lt_of_cell? w _ hx383_2)).trans hx383_2;replace p383:=eq_true p383;replace q383:=eq_true q383;(try go_wp2);have n0_:=Aside0.mk (below_drew1 HB.out);clear HB;have HB:=n0_;clear n0_;have p384:0≤(x5_1:Int):=of_decide_eq_true qz4;have q384:x5_1<(l0.length:Int):=of_decide_eq_true qz4;obtain ⟨ad384,e384,hx384_0,hx384_1,hx384_2⟩:=at_T63 HR0.out x5_1 p384 q384;have hw384_2:=hx384_2;have hw384_1:=hx384_1;have hw384_0:=hx384_0;obtain rfl:ad382=ad384:=(by injection e384);replace hx384_0:=(HB.out.cell (World.block_lt_of_cell? w _ hx384_0)).trans hx384_0;replace hx384_1:=(HB.out.cell (World.block_lt_of_cell? w _ hx384_1)).trans hx384_1;replace hx384_2:=(HB.out.cell (World.block_lt_of_cell? w _ hx384_2)).trans hx384_2;replace p384:=eq_true p384;replace q384:=eq_true q384;refine start_ (n:=8) (S:=fun w'=>w'.cell? (ad382.add ((x5_1).toNat * 3))=some (.int .i64 ((rd_T63 l0 x5_1).f0))∧w'.cell? ⟨(ad382.add ((x5_1).toNat * 3)).block,(ad382.add ((x5_1).toNat * 3)).off+1,none⟩=some (.int .i64 ((rd_T63 l0 x5_1).f1))∧w'.cell? ⟨(ad382.add ((x5_1).toNat * 3)).block,(ad382.add ((x5_1).toNat * 3)).off+2,none⟩=some (.string ((rd_T63 l0 x5_1).f2))) (ds:=[]) #[false,false,false,false,false,false,false,false] (by kernel_rfl) rfl rfl ⟨((HB.out.cell (World.block_lt_of_cell? w _ hw384_0)).trans hw384_0),((HB.out.cell (World.block_lt_of_cell? w _ hw384_1)).trans hw384_1),((HB.out.cell (World.block_lt_of_cell? w _ hw384_2)).trans hw384_2)⟩ (fun hHeld=>?_);refine with_tabW laws_heldTrmCellS.tab10 laws_heldTrmCellS.bits10 (fun HT_ HW_=>?_)
       generalize wr.drew=w9 at HB hx384_0 hx384_1 hx384_2 hHeld ⊢
       refine pure_ (i:=0) (N:=some 30) (v:=?_) (a':=?_) #[true,false,false,false,false,false,false,false] rfl rfl (any_of HT_.out (by kernel_rfl)) (fun _ _ _ h=>h) (Or.inl ⟨by rfl,?_⟩) ?_ ?_;rotate_left
       ·intro w'
        go_simp;with_reducible rfl
       rotate_left
       ·simp only [Act.put,sA_,sZ_,sS_,i64_w,i32_w]
        rfl
       refine pure_ (i:=1) (N:=some 31) (v:=?_) (a':=?_) #[true,true,false,false,false,false,false,false] rfl rfl (any_of HT_.out (by kernel_rfl)) (fun _ _ _ h=>h) (Or.inl ⟨by rfl,?_⟩) ?_ ?_;rotate_left
       ·intro w'
        go_simp;with_reducible rfl
       rotate_left
       ·simp only [Act.put,sA_,sZ_,sS_,i64_w,i32_w]
        rfl
       refine pure_ (i:=2) (N:=some 32) (v:=?_) (a':=?_) #[true,true,true,false,false,false,false,false] rfl rfl (any_of HT_.out (by kernel_rfl)) (fun _ _ _ h=>h) (Or.inl ⟨by rfl,?_⟩) ?_ ?_;rotate_left
       ·intro w'
        go_simp;with_reducible rfl
       rotate_left
       ·simp only [Act.put,sA_,sZ_,sS_,i64_w,i32_w]
        rfl
       refine pure_ (i:=3) (N:=some 33) (v:=?_) (a':=?_) #[true,true,true,true,false,false,false,false] rfl rfl (any_of HT_.out (by kernel_rfl)) (fun _ _ _ h=>h) (Or.inl ⟨by rfl,?_⟩) ?_ ?_;rotate_left
       ·intro w'
        go_simp;with_reducible rfl
       rotate_left
       ·simp only [Act.put,sA_,sZ_,sS_,i64_w,i32_w]
        rfl
       refine pure_ (i:=5) (N:=some 35) (v:=?_) (a':=?_) #[true,true,true,true,false,true,false,false] rfl rfl (any_of HT_.out (by kernel_rfl)) (fun _ _ _ h=>h) (Or.inl ⟨by rfl,?_⟩) ?_ ?_;rotate_left
       ·intro w'
        go_simp;with_reducible rfl
       rotate_left
       ·simp only [Act.put,sA_,sZ_,sS_,i64_w,i32_w]
        rfl
       refine take_ (i:=4) (N:=some 34) (v:=?_) (a':=?_) #[true,true,true,true,true,true,false,false] rfl rfl (take_ofW HT_.out HW_.out (by kernel_rfl)) (fun _ _ _ h=>h) (Or.inl ⟨by rfl,?_⟩) hHeld ?_ ?_;rotate_left
       ·rintro w' ⟨s0,s1,s2⟩
        go_simp;with_reducible rfl
       rotate_left
       ·simp only [Act.put,sA_,sZ_,sS_,i64_w,i32_w]
        rfl
       refine one_ (i:=6) (N:=some 36) #[true,true,true,true,true,true,true,false] rfl rfl (one_of HT_.out (by kernel_rfl)) (by decide) (fun K hK=>?_);refine goes_ Tryz.func55 (by kernel_rfl) rfl #[.int .i64 (wrap64 ((wrap64 (x1_1+1))+1))] (by rfl) rfl rfl qz22 ?_;(with_reducible refine (laws_markText.calls k1 (wrap64 ((wrap64 (x1_1+1))+1)) t385 _ A7.out).mono ?_);rintro e w10 ⟨rfl,hb⟩;refine ⟨_,rfl,?_⟩;have n0_:=Aside0.mk (below_step qz3 hb);clear HB;have HB:=n0_;clear n0_;(try clear hb);(try clear hb2);(try clear hk);(try clear hi);refine hK.out _ _ ⟨((HB.out.cell (World.block_lt_of_cell? w _ hw384_0)).trans hw384_0),((HB.out.cell (World.block_lt_of_cell? w _ hw384_1)).trans hw384_1),((HB.out.cell (World.block_lt_of_cell? w _ hw384_2)).trans hw384_2)⟩ (fun hHeld=>?_);clear hK K;refine norm_ (a':=?_) ?_ ?_;rotate_left
       ·show Act.put _ (some 36) _=_
        simp only [Act.put,sA_,sZ_,sS_,i64_w,i32_w];rfl
       refine pure_ (i:=7) (N:=some 37) (v:=?_) (a':=?_) #[true,true,true,true,true,true,true,true] rfl rfl (any_of HT_.out (by kernel_rfl)) (fun _ _ _ h=>h) (Or.inl ⟨by rfl,?_⟩) ?_ ?_;rotate_left
       ·intro w'
        go_simp;with_reducible rfl
       rotate_left
       ·simp only [Act.put,sA_,sZ_,sS_,i64_w,i32_w]
        rfl
       refine done_ (done_of HT_.out (by kernel_rfl)) ?_;go_upto_if 37 with (fail)
       have H:=HC8.out;clear HC8;by_cases c11:((rd_T63 l0 x5_1).f2).toList=t385.toList
       ·rw [if_pos c11] at H
        have c11b0:(((rd_T63 l0 x5_1).f2).toList == t385.toList)=true:=beq_iff_eq.mpr c11;have c11b1:(((rd_T63 l0 x5_1).f2).toList != t385.toList)=false:=bne_eq_false_iff_eq.mpr c11;clear c11;(first|rw [c11b0]|rw [c11b1]|(simp only [i64_w,i32_w];rw [c11b0])|skip);have H':=Aside0.mk H;clear H;go_wp2;go_roundg k1
        case measure=>have:=HK1.out;omega
        case rel=>exact ⟨(wrap64 ((wrap64 ((wrap64 (x1_1+1))+1))+1)),(wrap64 (x5_1+1)),qz5,qz5,H',⟨by have:=HK1.out;omega⟩,⟨qz1⟩⟩
       ·rw [if_neg c11] at H
        have c11b0:(((rd_T63 l0 x5_1).f2).toList == t385.toList)=false:=beq_eq_false_iff_ne.mpr c11;have c11b1:(((rd_T63 l0 x5_1).f2).toList != t385.toList)=true:=bne_iff_ne.mpr c11;(first|rw [c11b0]|rw [c11b1]|(simp only [i64_w,i32_w];rw [c11b0])|skip);obtain rfl:=Option.some.inj H;go_wp2;go_ret;exact ⟨qz2,qz1⟩
      ·rw [if_neg c6] at H
       have c6b0:(((rd_T63 l0 x5_1).f1) == (wrap64 (x1_1+1)))=false:=beq_eq_false_iff_ne.mpr c6;have c6b1:(((rd_T63 l0 x5_1).f1) != (wrap64 (x1_1+1)))=true:=bne_iff_ne.mpr c6;obtain rfl:=Option.some.inj H;have p382:0≤(x5_1:Int):=of_decide_eq_true qz4;have q382:x5_1<(l0.length:Int):=of_decide_eq_true qz4;obtain ⟨ad382,e382,hx382_0,hx382_1,hx382_2⟩:=at_T63 HR0.out x5_1 p382 q382;cases e382
       replace hx382_0:=(HB.out.cell (World.block_lt_of_cell? w _ hx382_0)).trans hx382_0;replace hx382_1:=(HB.out.cell (World.block_lt_of_cell? w _ hx382_1)).trans hx382_1;replace hx382_2:=(HB.out.cell (World.block_lt_of_cell? w _ hx382_2)).trans hx382_2;replace p382:=eq_true p382;replace q382:=eq_true q382;have p383:0≤(x5_1:Int):=of_decide_eq_true qz4;have q383:x5_1<(l0.length:Int):=of_decide_eq_true qz4;obtain ⟨ad383,e383,hx383_0,hx383_1,hx383_2⟩:=at_T63 HR0.out x5_1 p383 q383;obtain rfl:ad382=ad383:=(by injection e383);replace hx383_0:=(HB.out.cell (World.block_lt_of_cell? w _ hx383_0)).trans hx383_0;replace hx383_1:=(HB.out.cell (World.block_lt_of_cell? w _ hx383_1)).trans hx383_1;replace hx383_2:=(HB.out.cell (World.block_lt_of_cell? w _ hx383_2)).trans hx383_2;replace p383:=eq_true p383;replace q383:=eq_true q383;go_wp2;go_ret;exact ⟨qz2,qz1⟩
     ·rw [if_neg c5] at H
      have c5b0:(((rd_T63 l0 x5_1).f0) == x1_1)=false:=beq_eq_false_iff_ne.mpr c5;have c5b1:(((rd_T63 l0 x5_1).f0) != x1_1)=true:=bne_iff_ne.mpr c5;obtain rfl:=Option.some.inj H;have p382:0≤(x5_1:Int):=of_decide_eq_true qz4;have q382:x5_1<(l0.length:Int):=of_decide_eq_true qz4;obtain ⟨ad382,e382,hx382_0,hx382_1,hx382_2⟩:=at_T63 HR0.out x5_1 p382 q382;cases e382
      replace hx382_0:=(HB.out.cell (World.block_lt_of_cell? w _ hx382_0)).trans hx382_0;replace hx382_1:=(HB.out.cell (World.block_lt_of_cell? w _ hx382_1)).trans hx382_1;replace hx382_2:=(HB.out.cell (World.block_lt_of_cell? w _ hx382_2)).trans hx382_2;replace p382:=eq_true p382;replace q382:=eq_true q382;go_wp2;go_ret;exact ⟨qz2,qz1⟩
    ·rw [if_neg c4] at H
     exact absurd H (by simp)
   ·rw [if_neg c3] at H
    have c3b0:decide (x5_1<(l0.length:Int))=false:=decide_eq_false c3;clear c3;obtain rfl:=Option.some.inj H;go_wp2;go_ret;exact ⟨qz2,qz1⟩

/-! ### laws_heldPrgGoalS: function 51 -/
def laws_heldPrgGoalS.l0:Nat→List (S24)→Int→Int→Option (Int)
 | 0,_,_,_=>none
 | k+1,x0,x1,x5=>if x5<(x0.length:Int) then (if 0≤x5 then (if ((rd_T24 x0 x5).f0)=x1 then ((laws_heldTrmCellS.f k ((rd_T24 x0 x5).f1) (wrap64 (x1+1))).bind fun t388=>(if t388<0 then (some (-1)) else ((laws_heldTrmCellS.f k ((rd_T24 x0 x5).f2) t388).bind fun t390=>(if t390<0 then (some (-1)) else ((laws_heldTrmCellS.f k ((rd_T24 x0 x5).f3) t390).bind fun t392=>(if t392<0 then (some (-1)) else (laws_heldPrgGoalS.l0 k x0 t392 (wrap64 (x5+1))))))))) else (some (-1))) else (none)) else (some x1)
def laws_heldPrgGoalS.f (k:Nat) (l0:List (S24)) (a1:Int):Option (Int):=laws_heldPrgGoalS.l0 k l0 a1 0
set_option maxHeartbeats 8000000 in
set_option maxRecDepth 100000 in
theorem laws_heldPrgGoalS.calls (k:Nat) (A0:Option Addr) (c0:Nat) (l0:List (S24)) (a1:Int) (r:Int) (w:World) (hr0:Kd.C k24 w A0 l0.length l0) (hc0:l0.length≤c0) (h:laws_heldPrgGoalS.f k l0 a1=some r) :
  Calls Tryz.prog 51 #[.slice A0 l0.length c0,.int .i64 a1] w fun e w'=>e = .returned (.int .i64 r)∧Below w.heap.size w w':=by
 have HR0:=Aside0.mk hr0;have HC0:=Aside0.mk hc0;clear hr0 hc0;have HB:=Aside0.mk (Below.refl w.heap.size w);have H:(laws_heldPrgGoalS.l0 k l0 a1 0)=some r:=h;clear h;have H':=Aside0.mk H;clear H;go_enter Tryz.func51,Tryz.ntmps51;go_wp2
 go_loopg [1,5] k (fun kq v1 v5 w'=>∃ (x1_1:Int) (x5_1:Int),v1 = .int .i64 x1_1∧v5 = .int .i64 x5_1∧Aside0 (laws_heldPrgGoalS.l0 kq l0 x1_1 x5_1=some r)∧Aside0 (kq≤k)∧Aside0 (Below w.heap.size w w'))
 case atStart=>exact ⟨(a1),(0),qz5,qz5,H',⟨Nat.le_refl _⟩,⟨qz1⟩⟩
 case round=>
  clear H';obtain ⟨x1_1,x5_1,rfl,rfl,HA,HK1,HB⟩:=hrel;cases gk with
  | zero=>exact absurd HA.out (by simp [laws_heldPrgGoalS.l0])
  | succ k1=>
   have H:=HA.out;clear HA;simp only [laws_heldPrgGoalS.l0] at H;by_cases c3:x5_1<(l0.length:Int)
   ·rw [if_pos c3] at H
    have c3b0:decide (x5_1<(l0.length:Int))=true:=decide_eq_true c3;clear c3;by_cases c4:0≤x5_1
    ·rw [if_pos c4] at H
     have c4b0:decide (0≤x5_1)=true:=decide_eq_true c4;clear c4;by_cases c5:((rd_T24 l0 x5_1).f0)=x1_1
     ·rw [if_pos c5] at H
      have c5b0:(((rd_T24 l0 x5_1).f0) == x1_1)=true:=beq_iff_eq.mpr c5;have c5b1:(((rd_T24 l0 x5_1).f0) != x1_1)=false:=bne_eq_false_iff_eq.mpr c5;clear c5;replace H:=Option.bind_eq_some_iff.mp H;obtain ⟨t388,A60,H⟩:=H;(try dsimp only at H);have A6:=Aside0.mk A60;clear A60;have HC7:=Aside0.mk H;clear H;have p386:0≤(x5_1:Int):=of_decide_eq_true qz4;have q386:x5_1<(l0.length:Int):=of_decide_eq_true qz4;obtain ⟨ad386,A386_1,c386_1,A386_2,c386_2,A386_3,c386_3,e386,hx386_0,hx386_1,hx386_2,hx386_3,hl386_1,hi386_1,hl386_2,hi386_2,hl386_3,hi386_3⟩:=at_T24 HR0.out x5_1 p386 q386;cases e386
      replace hx386_0:=(HB.out.cell (World.block_lt_of_cell? w _ hx386_0)).trans hx386_0;replace hx386_1:=(HB.out.cell (World.block_lt_of_cell? w _ hx386_1)).trans hx386_1;replace hx386_2:=(HB.out.cell (World.block_lt_of_cell? w _ hx386_2)).trans hx386_2;replace hx386_3:=(HB.out.cell (World.block_lt_of_cell? w _ hx386_3)).trans hx386_3;have HR386_1:=Aside0.mk hi386_1;have HC386_1:=Aside0.mk hl386_1;clear hi386_1 hl386_1;have HR386_2:=Aside0.mk hi386_2;have HC386_2:=Aside0.mk hl386_2;clear hi386_2 hl386_2;have HR386_3:=Aside0.mk hi386_3;have HC386_3:=Aside0.mk hl386_3;clear hi386_3 hl386_3;replace p386:=eq_true p386;replace q386:=eq_true q386;have p387:0≤(x5_1:Int):=of_decide_eq_true qz4;have q387:x5_1<(l0.length:Int):=of_decide_eq_true qz4;obtain ⟨ad387,A387_1,c387_1,A387_2,c387_2,A387_3,c387_3,e387,hx387_0,hx387_1,hx387_2,hx387_3,hl387_1,hi387_1,hl387_2,hi387_2,hl387_3,hi387_3⟩:=at_T24 HR0.out x5_1 p387 q387;obtain rfl:ad386=ad387:=(by injection e387);replace hx387_0:=(HB.out.cell (World.block_lt_of_cell? w _ hx387_0)).trans hx387_0;replace hx387_1:=(HB.out.cell (World.block_lt_of_cell? w _ hx387_1)).trans hx387_1;replace hx387_2:=(HB.out.cell (World.block_lt_of_cell? w _ hx387_2)).trans hx387_2;replace hx387_3:=(HB.out.cell (World.block_lt_of_cell? w _ hx387_3)).trans hx387_3;have HR387_1:=Aside0.mk hi387_1;have HC387_1:=Aside0.mk hl387_1;clear hi387_1 hl387_1;have HR387_2:=Aside0.mk hi387_2;have HC387_2:=Aside0.mk hl387_2;clear hi387_2 hl387_2;have HR387_3:=Aside0.mk hi387_3;have HC387_3:=Aside0.mk hl387_3;clear hi387_3 hl387_3;replace p387:=eq_true p387;replace q387:=eq_true q387;have ea_:=Option.some.inj (hx386_1.symm.trans hx387_1);injection ea_ with ea_ en_ ec_
      subst ea_;subst ec_;clear en_;have ea_:=Option.some.inj (hx386_2.symm.trans hx387_2);injection ea_ with ea_ en_ ec_
      subst ea_;subst ec_;clear en_;have ea_:=Option.some.inj (hx386_3.symm.trans hx387_3);injection ea_ with ea_ en_ ec_
      subst ea_;subst ec_;clear en_;go_upto_if 29 with (first|(go_at_call 30;(with_reducible refine (laws_heldTrmCellS.calls k1 _ _ ((rd_T24 l0 x5_1).f1) (wrap64 (x1_1+1)) t388 _ ?side1 ?side2 A6.out).mono ?_);(case side1=>repeat (first|exact (Kd.C_below HR387_1.out HB.out)|(with_reducible refine Kd.C_alloc ?_ _)|(with_reducible refine Kd.C_drewN ?_ _)|(with_reducible refine Kd.C_drew ?_)));(case side2=>exact HC387_1.out);rintro e w8 ⟨rfl,hb⟩;have n0_:=Aside0.mk (below_step qz3 hb);clear HB;have HB:=n0_;clear n0_ hb))
      (try simp only [Act.put,sA_,sZ_,sS_]);have H:=HC7.out;clear HC7;by_cases c9:t388<0
      ·rw [if_pos c9] at H
       have c9b0:decide (t388<0)=true:=decide_eq_true c9;clear c9;(first|rw [c9b0]|rw [c9b1]|(simp only [i64_w,i32_w];rw [c9b0])|skip);obtain rfl:=Option.some.inj H;go_wp2;go_ret;exact ⟨qz2,qz1⟩
      ·rw [if_neg c9] at H
       have c9b0:decide (t388<0)=false:=decide_eq_false c9;clear c9;(first|rw [c9b0]|rw [c9b1]|(simp only [i64_w,i32_w];rw [c9b0])|skip);replace H:=Option.bind_eq_some_iff.mp H;obtain ⟨t390,A100,H⟩:=H;(try dsimp only at H);have A10:=Aside0.mk A100;clear A100;have HC11:=Aside0.mk H;clear H;have p389:0≤(x5_1:Int):=of_decide_eq_true qz4;have q389:x5_1<(l0.length:Int):=of_decide_eq_true qz4;obtain ⟨ad389,A389_1,c389_1,A389_2,c389_2,A389_3,c389_3,e389,hx389_0,hx389_1,hx389_2,hx389_3,hl389_1,hi389_1,hl389_2,hi389_2,hl389_3,hi389_3⟩:=at_T24 HR0.out x5_1 p389 q389;obtain rfl:ad386=ad389:=(by injection e389);replace hx389_0:=(HB.out.cell (World.block_lt_of_cell? w _ hx389_0)).trans hx389_0;replace hx389_1:=(HB.out.cell (World.block_lt_of_cell? w _ hx389_1)).trans hx389_1;replace hx389_2:=(HB.out.cell (World.block_lt_of_cell? w _ hx389_2)).trans hx389_2;replace hx389_3:=(HB.out.cell (World.block_lt_of_cell? w _ hx389_3)).trans hx389_3;have HR389_1:=Aside0.mk hi389_1;have HC389_1:=Aside0.mk hl389_1;clear hi389_1 hl389_1;have HR389_2:=Aside0.mk hi389_2;have HC389_2:=Aside0.mk hl389_2;clear hi389_2 hl389_2;have HR389_3:=Aside0.mk hi389_3;have HC389_3:=Aside0.mk hl389_3;clear hi389_3 hl389_3;replace p389:=eq_true p389;replace q389:=eq_true q389;go_upto_if 38 with (first|(go_at_call 30;(with_reducible refine (laws_heldTrmCellS.calls k1 _ _ ((rd_T24 l0 x5_1).f2) t388 t390 _ ?side1 ?side2 A10.out).mono ?_);(case side1=>repeat (first|exact (Kd.C_below HR389_2.out HB.out)|(with_reducible refine Kd.C_alloc ?_ _)|(with_reducible refine Kd.C_drewN ?_ _)|(with_reducible refine Kd.C_drew ?_)));(case side2=>exact HC389_2.out);rintro e w12 ⟨rfl,hb⟩;have n0_:=Aside0.mk (below_step qz3 hb);clear HB;have HB:=n0_;clear n0_ hb))
       (try simp only [Act.put,sA_,sZ_,sS_]);have H:=HC11.out;clear HC11;by_cases c13:t390<0
       ·rw [if_pos c13] at H
        have c13b0:decide (t390<0)=true:=decide_eq_true c13;clear c13;(first|rw [c13b0]|rw [c13b1]|(simp only [i64_w,i32_w];rw [c13b0])|skip);obtain rfl:=Option.some.inj H;go_wp2;go_ret;exact ⟨qz2,qz1⟩
       ·rw [if_neg c13] at H
        have c13b0:decide (t390<0)=false:=decide_eq_false c13;clear c13;(first|rw [c13b0]|rw [c13b1]|(simp only [i64_w,i32_w];rw [c13b0])|skip);replace H:=Option.bind_eq_some_iff.mp H;obtain ⟨t392,A140,H⟩:=H;(try dsimp only at H);have A14:=Aside0.mk A140;clear A140;have HC15:=Aside0.mk H;clear H;have p391:0≤(x5_1:Int):=of_decide_eq_true qz4;have q391:x5_1<(l0.length:Int):=of_decide_eq_true qz4;obtain ⟨ad391,A391_1,c391_1,A391_2,c391_2,A391_3,c391_3,e391,hx391_0,hx391_1,hx391_2,hx391_3,hl391_1,hi391_1,hl391_2,hi391_2,hl391_3,hi391_3⟩:=at_T24 HR0.out x5_1 p391 q391;obtain rfl:ad386=ad391:=(by injection e391);replace hx391_0:=(HB.out.cell (World.block_lt_of_cell? w _ hx391_0)).trans hx391_0;replace hx391_1:=(HB.out.cell (World.block_lt_of_cell? w _ hx391_1)).trans hx391_1;replace hx391_2:=(HB.out.cell (World.block_lt_of_cell? w _ hx391_2)).trans hx391_2;replace hx391_3:=(HB.out.cell (World.block_lt_of_cell? w _ hx391_3)).trans hx391_3;have HR391_1:=Aside0.mk hi391_1;have HC391_1:=Aside0.mk hl391_1;clear hi391_1 hl391_1;have HR391_2:=Aside0.mk hi391_2;have HC391_2:=Aside0.mk hl391_2;clear hi391_2 hl391_2;have HR391_3:=Aside0.mk hi391_3;have HC391_3:=Aside0.mk hl391_3;clear hi391_3 hl391_3;replace p391:=eq_true p391;replace q391:=eq_true q391;go_upto_if 47 with (first|(go_at_call 30;(with_reducible refine (laws_heldTrmCellS.calls k1 _ _ ((rd_T24 l0 x5_1).f3) t390 t392 _ ?side1 ?side2 A14.out).mono ?_);(case side1=>repeat (first|exact (Kd.C_below HR391_3.out HB.out)|(with_reducible refine Kd.C_alloc ?_ _)|(with_reducible refine Kd.C_drewN ?_ _)|(with_reducible refine Kd.C_drew ?_)));(case side2=>exact HC391_3.out);rintro e w16 ⟨rfl,hb⟩;have n0_:=Aside0.mk (below_step qz3 hb);clear HB;have HB:=n0_;clear n0_ hb))
        (try simp only [Act.put,sA_,sZ_,sS_]);have H:=HC15.out;clear HC15;by_cases c17:t392<0
        ·rw [if_pos c17] at H
         have c17b0:decide (t392<0)=true:=decide_eq_true c17;clear c17;(first|rw [c17b0]|rw [c17b1]|(simp only [i64_w,i32_w];rw [c17b0])|skip);obtain rfl:=Option.some.inj H;go_wp2;go_ret;exact ⟨qz2,qz1⟩
        ·rw [if_neg c17] at H
         have c17b0:decide (t392<0)=false:=decide_eq_false c17;clear c17;(first|rw [c17b0]|rw [c17b1]|(simp only [i64_w,i32_w];rw [c17b0])|skip);have H':=Aside0.mk H;clear H;go_wp2;go_roundg k1
         case measure=>have:=HK1.out;omega
         case rel=>exact ⟨(t392),(wrap64 (x5_1+1)),qz5,qz5,H',⟨by have:=HK1.out;omega⟩,⟨qz1⟩⟩
     ·rw [if_neg c5] at H
      have c5b0:(((rd_T24 l0 x5_1).f0) == x1_1)=false:=beq_eq_false_iff_ne.mpr c5;have c5b1:(((rd_T24 l0 x5_1).f0) != x1_1)=true:=bne_iff_ne.mpr c5;obtain rfl:=Option.some.inj H;have p386:0≤(x5_1:Int):=of_decide_eq_true qz4;have q386:x5_1<(l0.length:Int):=of_decide_eq_true qz4;obtain ⟨ad386,A386_1,c386_1,A386_2,c386_2,A386_3,c386_3,e386,hx386_0,hx386_1,hx386_2,hx386_3,hl386_1,hi386_1,hl386_2,hi386_2,hl386_3,hi386_3⟩:=at_T24 HR0.out x5_1 p386 q386;cases e386
      replace hx386_0:=(HB.out.cell (World.block_lt_of_cell? w _ hx386_0)).trans hx386_0;replace hx386_1:=(HB.out.cell (World.block_lt_of_cell? w _ hx386_1)).trans hx386_1;replace hx386_2:=(HB.out.cell (World.block_lt_of_cell? w _ hx386_2)).trans hx386_2;replace hx386_3:=(HB.out.cell (World.block_lt_of_cell? w _ hx386_3)).trans hx386_3;have HR386_1:=Aside0.mk hi386_1;have HC386_1:=Aside0.mk hl386_1;clear hi386_1 hl386_1;have HR386_2:=Aside0.mk hi386_2;have HC386_2:=Aside0.mk hl386_2;clear hi386_2 hl386_2;have HR386_3:=Aside0.mk hi386_3;have HC386_3:=Aside0.mk hl386_3;clear hi386_3 hl386_3;replace p386:=eq_true p386;replace q386:=eq_true q386;go_wp2;go_ret;exact ⟨qz2,qz1⟩
    ·rw [if_neg c4] at H
     exact absurd H (by simp)
   ·rw [if_neg c3] at H
    have c3b0:decide (x5_1<(l0.length:Int))=false:=decide_eq_false c3;clear c3;obtain rfl:=Option.some.inj H;go_wp2;go_ret;exact ⟨qz2,qz1⟩

/-! ### laws_heldPrgClause: function 23 -/
def laws_heldPrgClause.f (k:Nat) (l0_0:List (S63)) (l0_1:List (S24)) (a1:Int):Option (Int):=(laws_heldTrmCellS.f k l0_0 a1).bind fun t394=>(if t394<0 then (some (-1)) else ((laws_heldPrgGoalS.f k l0_1 t394).bind fun t395=>(if t395<0 then (some (-1)) else (some t395))))
set_option maxHeartbeats 8000000 in
set_option maxRecDepth 100000 in
theorem laws_heldPrgClause.calls (k:Nat) (A0_0:Option Addr) (c0_0:Nat) (l0_0:List (S63)) (A0_1:Option Addr) (c0_1:Nat) (l0_1:List (S24)) (a1:Int) (r:Int) (w:World) (hr0_0:Kd.C k63 w A0_0 l0_0.length l0_0) (hc0_0:l0_0.length≤c0_0) (hr0_1:Kd.C k24 w A0_1 l0_1.length l0_1) (hc0_1:l0_1.length≤c0_1) (h:laws_heldPrgClause.f k l0_0 l0_1 a1=some r) :
  Calls Tryz.prog 23 #[.agg #[.slice A0_0 l0_0.length c0_0,.slice A0_1 l0_1.length c0_1],.int .i64 a1] w fun e w'=>e = .returned (.int .i64 r)∧Below w.heap.size w w':=by
 have hu39:=Tryz.underlying39;have HR0_0:=Aside0.mk hr0_0;have HC0_0:=Aside0.mk hc0_0;clear hr0_0 hc0_0;have HR0_1:=Aside0.mk hr0_1;have HC0_1:=Aside0.mk hc0_1;clear hr0_1 hc0_1;have HB:=Aside0.mk (Below.refl w.heap.size w);have H:((laws_heldTrmCellS.f k l0_0 a1).bind fun t394=>(if t394<0 then (some (-1)) else ((laws_heldPrgGoalS.f k l0_1 t394).bind fun t395=>(if t395<0 then (some (-1)) else (some t395)))))=some r:=h;clear h;replace H:=Option.bind_eq_some_iff.mp H;obtain ⟨t394,A30,H⟩:=H;(try dsimp only at H);have A3:=Aside0.mk A30;clear A30;have HC4:=Aside0.mk H;clear H;go_enter Tryz.func23,Tryz.ntmps23;go_upto_if 10 with (first|((with_reducible refine gate_dst (N:=2) rfl ?_);refine box_event ?hg (N:=2) ?hd (cs:=#[.slice A0_0 l0_0.length c0_0,.slice A0_1 l0_1.length c0_1]) (t:=39) ?hr ?_;(case hd=>rfl);(case hg=>rfl);(case hr=>first|(go_simp;done)|(go_simp;rfl));intro gb393 hg w5 hbox hb;have n_:=as3 (below_step qz3 hb) (hbox) ((by rw [hg];exact (below_size qz3):w.heap.size≤gb393));clear HB;obtain ⟨HB,BK393,GE393⟩:=n_;clear hb hbox hg;obtain ⟨hcz6_0,hcz6_1,hfz6_0,hfz6_1⟩:=blk2 BK393.out)|(go_at_call 30;(with_reducible refine (laws_heldTrmCellS.calls k _ _ l0_0 a1 t394 _ ?side1 ?side2 A3.out).mono ?_);(case side1=>exact qz19);(case side2=>exact HC0_0.out);rintro e w7 ⟨rfl,hb⟩;have n_:=as2 (blk_below (blkp BK393.out) hb) (below_step qz39 hb);clear BK393 HB;obtain ⟨BK393,HB⟩:=n_;clear hb))
 (try simp only [Act.put,sA_,sZ_,sS_]);have H:=HC4.out;clear HC4;by_cases c8:t394<0
 ·rw [if_pos c8] at H
  have c8b0:decide (t394<0)=true:=decide_eq_true c8;clear c8;(first|rw [c8b0]|rw [c8b1]|(simp only [i64_w,i32_w];rw [c8b0])|skip);obtain rfl:=Option.some.inj H;go_wp2;go_ret;exact ⟨qz2,qz39⟩
 ·rw [if_neg c8] at H
  have c8b0:decide (t394<0)=false:=decide_eq_false c8;clear c8;(first|rw [c8b0]|rw [c8b1]|(simp only [i64_w,i32_w];rw [c8b0])|skip);replace H:=Option.bind_eq_some_iff.mp H;obtain ⟨t395,A90,H⟩:=H;(try dsimp only at H);have A9:=Aside0.mk A90;clear A90;have HC10:=Aside0.mk H;clear H;obtain ⟨hcz11_0,hcz11_1,hfz11_0,hfz11_1⟩:=blk2 BK393.out;go_upto_if 16 with (first|(go_at_call 51;(with_reducible refine (laws_heldPrgGoalS.calls k _ _ l0_1 t394 t395 _ ?side1 ?side2 A9.out).mono ?_);(case side1=>exact qz8);(case side2=>exact HC0_1.out);rintro e w12 ⟨rfl,hb⟩;have n_:=as2 (blk_below (blkp BK393.out) hb) (below_step qz39 hb);clear BK393 HB;obtain ⟨BK393,HB⟩:=n_;clear hb))
  (try simp only [Act.put,sA_,sZ_,sS_]);have H:=HC10.out;clear HC10;by_cases c13:t395<0
  ·rw [if_pos c13] at H
   have c13b0:decide (t395<0)=true:=decide_eq_true c13;clear c13;(first|rw [c13b0]|rw [c13b1]|(simp only [i64_w,i32_w];rw [c13b0])|skip);obtain rfl:=Option.some.inj H;go_wp2;go_ret;exact ⟨qz2,qz39⟩
  ·rw [if_neg c13] at H
   have c13b0:decide (t395<0)=false:=decide_eq_false c13;clear c13;(first|rw [c13b0]|rw [c13b1]|(simp only [i64_w,i32_w];rw [c13b0])|skip);obtain rfl:=Option.some.inj H;go_wp2;go_ret;exact ⟨qz2,qz39⟩

end Go.Proofs.YtlhniagacegbeaaGreatDoor.P
