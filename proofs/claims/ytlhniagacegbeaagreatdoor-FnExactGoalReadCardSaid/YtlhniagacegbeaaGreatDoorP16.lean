/- Contracts of functions of the program: each as a Lean function, and that its call does what that says; printed by cprint.py (this session) over print.py of the kit. Conditions: the hypotheses of each theorem. -/
import Derived.Test.YtlhniagacegbeaaGreatDoorVZ
import Derived.Test.YtlhniagacegbeaaGreatDoorP0
import Derived.Test.YtlhniagacegbeaaGreatDoorP15
namespace Go.Proofs.YtlhniagacegbeaaGreatDoor.P
open Go.RowKit Go.Proofs.YtlhniagacegbeaaGreatDoorW.PrintWords Go.Proofs.YtlhniagacegbeaaGreatDoorW.PrintLast Go.Proofs.YtlhniagacegbeaaGreatDoorW.PrintMore
attribute [local go_sem] max2_int min2_int max_two min_two max_three min_three max_four min_four   -- for this text's walks alone
set_option linter.unusedVariables false
set_option linter.unusedSimpArgs false

/-! ### laws_markTrmCellS: function 29 -/
def laws_markTrmCellS.l0:Nat→List (S63)→Int→Int→Option (Int × (List (S63)))
 | 0,_,_,_=>none
 | k+1,x0,x1,x5=>if x5<(x0.length:Int) then (if 0≤x5 then ((some (x0.set (x5:Int).toNat (⟨x1,(rd_T63 x0 x5).f1,(rd_T63 x0 x5).f2⟩:S63):List (S63))).bind fun y290=>((some (y290.set (x5:Int).toNat (⟨(rd_T63 y290 x5).f0,wrap64 (x1+1),(rd_T63 y290 x5).f2⟩:S63):List (S63))).bind fun y291=>((laws_markText.f k (wrap64 ((wrap64 (x1+1))+1))).bind fun t292=>(laws_markTrmCellS.l0 k (y291.set (x5:Int).toNat (⟨(rd_T63 y291 x5).f0,(rd_T63 y291 x5).f1,t292⟩:S63)) (wrap64 ((wrap64 ((wrap64 (x1+1))+1))+1)) (wrap64 (x5+1)))))) else (none)) else (some (x1,x0))
def laws_markTrmCellS.f (k:Nat) (l0:List (S63)) (a1:Int):Option (Int × (List (S63))):=laws_markTrmCellS.l0 k l0 a1 0
set_option maxHeartbeats 8000000 in
set_option maxRecDepth 100000 in
theorem laws_markTrmCellS.calls (k:Nat) (P0_:Nat→Prop) (u9000_:Value) (l0:List (S63)) (a1:Int) (r1:Int) (r2:List (S63)) (w0 w:World) (hB:Below w0.heap.size w0 w) (ho0:Kd.R k63 63 w w0.heap.size P0_ u9000_ l0) (h:laws_markTrmCellS.f k l0 a1=some (r1,r2)) :
  Calls Tryz.prog 29 #[u9000_,.int .i64 a1] w fun e w'=>e = .returned (.int .i64 r1)∧Kd.R k63 63 w' w0.heap.size (fun k_=>(P0_ k_∨w.heap.size≤k_)) u9000_ r2∧Below w0.heap.size w0 w'∧Kept w w' (fun k_=>P0_ k_):=by
 have HO0:=Aside0.mk (show Kd.R k63 63 w w0.heap.size (fun k_=>(P0_ k_∨w.heap.size≤k_)) u9000_ l0 from Kd.R_mono ho0 (fun k_ hk=>(.inl hk)))
 have HK:=Aside0.mk (Kept.refl w (fun k_=>P0_ k_))
 have HW0:=Aside0.mk hB.size
 have HB:=Aside0.mk hB
 clear hB
 have H:(laws_markTrmCellS.l0 k l0 a1 0)=some (r1,r2):=h
 clear h
 have H':=Aside0.mk H
 clear H
 go_enter Tryz.func29,Tryz.ntmps29
 go_wp2
 go_loopg [1,5] k (fun kq v1 v5 w'=>∃ (x0_1:List (S63)) (x1_1:Int) (x5_1:Int),v1 = .int .i64 x1_1∧v5 = .int .i64 x5_1∧Aside0 (laws_markTrmCellS.l0 kq x0_1 x1_1 x5_1=some (r1,r2))∧Aside0 (kq≤k)∧Aside0 (Kd.R k63 63 w' w0.heap.size (fun k_=>(P0_ k_∨w.heap.size≤k_)) u9000_ x0_1)∧Aside0 (Kept w w' (fun k_=>P0_ k_))∧Aside0 (Below w0.heap.size w0 w'))
 case atStart=>exact ⟨(l0),(a1),(0),qz9,qz9,H',⟨Nat.le_refl _⟩,⟨by (with_reducible repeat (first|apply Kd.R_alloc|apply Kd.R_drewN|apply Kd.R_drew));exact HO0.out⟩,⟨qz64⟩,⟨qz3⟩⟩
 case round=>
  clear H'
  try clear c2
  try clear p2
  obtain ⟨x0_1,x1_1,x5_1,rfl,rfl,HA,HK1,HO_0,HK,HB⟩:=hrel
  cases gk with
  | zero=>exact absurd HA.out (by simp [laws_markTrmCellS.l0])
  | succ k1=>
   have H:=HA.out
   clear HA
   simp only [laws_markTrmCellS.l0] at H
   by_cases c3:x5_1<(x0_1.length:Int)
   ·rw [if_pos c3] at H
    have c3b0:decide (x5_1<(x0_1.length:Int))=true:=decide_eq_true c3
    clear c3
    by_cases c4:0≤x5_1
    ·rw [if_pos c4] at H
     have c4b0:decide (0≤x5_1)=true:=decide_eq_true c4
     clear c4
     obtain ⟨y290,hy290⟩:∃ y_:List (S63),y_=(x0_1.set (x5_1:Int).toNat (⟨x1_1,(rd_T63 x0_1 x5_1).f1,(rd_T63 x0_1 x5_1).f2⟩:S63)):=⟨_,rfl⟩
     replace H:((some (y290.set (x5_1:Int).toNat (⟨(rd_T63 y290 x5_1).f0,wrap64 (x1_1+1),(rd_T63 y290 x5_1).f2⟩:S63):List (S63))).bind fun y291=>((laws_markText.f k1 (wrap64 ((wrap64 (x1_1+1))+1))).bind fun t292=>(laws_markTrmCellS.l0 k1 (y291.set (x5_1:Int).toNat (⟨(rd_T63 y291 x5_1).f0,(rd_T63 y291 x5_1).f1,t292⟩:S63)) (wrap64 ((wrap64 ((wrap64 (x1_1+1))+1))+1)) (wrap64 (x5_1+1)))))=some (r1,r2):=by first|(rw [hy290];exact H)|exact H
     have Ny290:=Aside0.mk hy290
     clear hy290
     obtain ⟨y291,hy291⟩:∃ y_:List (S63),y_=(y290.set (x5_1:Int).toNat (⟨(rd_T63 y290 x5_1).f0,wrap64 (x1_1+1),(rd_T63 y290 x5_1).f2⟩:S63)):=⟨_,rfl⟩
     replace H:((laws_markText.f k1 (wrap64 ((wrap64 (x1_1+1))+1))).bind fun t292=>(laws_markTrmCellS.l0 k1 (y291.set (x5_1:Int).toNat (⟨(rd_T63 y291 x5_1).f0,(rd_T63 y291 x5_1).f1,t292⟩:S63)) (wrap64 ((wrap64 ((wrap64 (x1_1+1))+1))+1)) (wrap64 (x5_1+1))))=some (r1,r2):=by first|(rw [hy291];exact H)|exact H
     have Ny291:=Aside0.mk hy291
     clear hy291
     replace H:=Option.bind_eq_some_iff.mp H
     obtain ⟨t292,A70,H⟩:=H
     try dsimp only at H
     have A7:=Aside0.mk A70
     clear A70
     obtain ⟨y293,hy293⟩:∃ y_:List (S63),y_=(y291.set (x5_1:Int).toNat (⟨(rd_T63 y291 x5_1).f0,(rd_T63 y291 x5_1).f1,t292⟩:S63)):=⟨_,rfl⟩
     replace H:(laws_markTrmCellS.l0 k1 y293 (wrap64 ((wrap64 ((wrap64 (x1_1+1))+1))+1)) (wrap64 (x5_1+1)))=some (r1,r2):=by first|(rw [hy293];exact H)|exact H
     have Ny293:=Aside0.mk hy293
     clear hy293
     have H':=Aside0.mk H
     clear H
     obtain ⟨Ao9,co9,eo9⟩:=Kd.R_slice HO_0.out
     subst eo9
     have p5:0≤(x5_1:Int):=of_decide_eq_true qz5
     have q5:(x5_1:Int)<((x0_1.length:Int):Int):=of_decide_eq_true qz5
     obtain ⟨go5,co5,eo5,gb5,gl5,cl5,HG5⟩:=Kd.R_form HO_0.out (by omega)
     (first|cases eo5|(injection eo5 with ea_ en_ ec_;(first|subst ea_|(injection ea_ with ea_;subst ea_));subst ec_;clear en_))
     have GB5:=Aside0.mk gb5
     have GG5:=Aside0.mk HG5
     clear gb5 gl5 HG5
     have HMgo5:=Aside0.mk (show (P0_ go5∨w.heap.size≤go5) from (HO_0.out.1 _ rfl))
     obtain ⟨ce5,hcl5,hM5,hcc5,hfr5⟩:=Kd.R_elem HO_0.out z63 (x5_1:Int) p5 q5
     obtain rfl:=k63_openM hM5
     have hx5_0:wr.cell? ⟨go5,(x5_1:Int).toNat * 3,none⟩=some (.int .i64 ((rd_T63 x0_1 x5_1).f0)):=hcc5 0 _ rfl
     have hx5_1:wr.cell? ⟨go5,(x5_1:Int).toNat * 3+1,none⟩=some (.int .i64 ((rd_T63 x0_1 x5_1).f1)):=hcc5 1 _ rfl
     have hx5_2:wr.cell? ⟨go5,(x5_1:Int).toNat * 3+2,none⟩=some (.string ((rd_T63 x0_1 x5_1).f2)):=hcc5 2 _ rfl
     have hf5_0:wr.frozen? ⟨go5,(x5_1:Int).toNat * 3,none⟩=false:=hfr5 0
     have hf5_1:wr.frozen? ⟨go5,(x5_1:Int).toNat * 3+1,none⟩=false:=hfr5 1
     have hf5_2:wr.frozen? ⟨go5,(x5_1:Int).toNat * 3+2,none⟩=false:=hfr5 2
     (try clear hcl5);(try clear hcc5);(try clear hfr5);(try clear hM5)
     replace p5:=eq_true p5
     replace q5:=eq_true q5
     have HX10:=Aside0.mk (show Kd.R k63 63 wr w0.heap.size (fun k_=>(P0_ k_∨w.heap.size≤k_)) (.slice (some ⟨go5,0,none⟩) x0_1.length co9) x0_1 from qz109)
     obtain ⟨ce10,hcl10,hM10,hcc10,hfr10⟩:=Kd.R_elem HX10.out z63 (x5_1:Int) (of_decide_eq_true qz5) (by have h_:(x5_1:Int)<((x0_1.length:Int):Int):=of_decide_eq_true qz5;first|exact h_|(have e_:=(Kd.R_reads' HO_0.out).1;omega)|simpa using h_)
     obtain rfl:=k63_openM hM10
     have HP10:=Kd.R_seg HX10.out (x5_1:Int) (of_decide_eq_true qz5) (by have h_:(x5_1:Int)<((x0_1.length:Int):Int):=of_decide_eq_true qz5;first|exact h_|(have e_:=(Kd.R_reads' HO_0.out).1;omega)|simpa using h_) (seg:=[.int .i64 x1_1]) (j:=0) hcl10 hcc10 (show 1≤3 from by decide) (x':=(⟨x1_1,(rd_T63 x0_1 x5_1).f1,(rd_T63 x0_1 x5_1).f2⟩:S63)) (k63_mkM _ _ _ (⟨x1_1,(rd_T63 x0_1 x5_1).f1,(rd_T63 x0_1 x5_1).f2⟩:S63) ) (fun _ hk=>hk)
     have hx10_0:=hcc10 0 _ rfl
     (try simp only [show (k63).sz=3 from rfl,Nat.mul_one,Nat.add_zero] at hx10_0)
     have hf10_0:=hfr10 0
     (try simp only [show (k63).sz=3 from rfl,Nat.mul_one,Nat.add_zero] at hf10_0)
     (try clear hcl10);(try clear hcc10);(try clear hfr10);(try clear hM10)
     go_wp2_with (first|((with_reducible refine gate_store (t:=3) (p:=16) rfl ?_);refine store_event (t:=3) (p:=16) (v:=?vo_w11) (w1:=(wr.setCell ⟨go5,(x5_1:Int).toNat * 3,none⟩ (.int .i64 x1_1))) ?hg ?ho ?hn ?hr ?_;(case ho=>rfl);(case hg=>rfl);(case hn=>rfl);(case hr=>first|(go_simp;done)|(go_simp;rfl));intro w11 hw;have hg:wr.grownBy w11 (some go5):=(by rw [hw];exact HP10.2);have hp_:Kd.R k63 63 w11 w0.heap.size (fun k_=>(P0_ k_∨w.heap.size≤k_)) (.slice (some ⟨go5,0,none⟩) x0_1.length co9) y290:=(by rw [hw,Ny290.out];exact HP10.1);clear HP10;have n0_:=Aside0.mk (hp_);have n1_:=Aside0.mk ((by rw [hw];exact below_set (HB.out) GB5.out:Below w0.heap.size w0 w11));have n2_:=Aside0.mk (Kept.of_grown (S:=(fun k_=>P0_ k_)) hg qz64 (fun k_ e_=>(HO_0.out.1 k_ e_)));clear HO_0 HB HK;have HO_0:=n0_;have HB:=n1_;have HK:=n2_;clear n0_ n1_ n2_ hg hw hp_;have p6:0≤(x5_1:Int):=of_decide_eq_true qz5;have q6:(x5_1:Int)<((x0_1.length:Int):Int):=of_decide_eq_true qz5;obtain ⟨ce6,hcl6,hM6,hcc6,hfr6⟩:=Kd.R_elem HO_0.out z63 (x5_1:Int) p6 q6;obtain rfl:=k63_openM hM6;have hx6_0:w11.cell? ⟨go5,(x5_1:Int).toNat * 3,none⟩=some (.int .i64 ((rd_T63 y290 x5_1).f0)):=hcc6 0 _ rfl;have hx6_1:w11.cell? ⟨go5,(x5_1:Int).toNat * 3+1,none⟩=some (.int .i64 ((rd_T63 y290 x5_1).f1)):=hcc6 1 _ rfl;have hx6_2:w11.cell? ⟨go5,(x5_1:Int).toNat * 3+2,none⟩=some (.string ((rd_T63 y290 x5_1).f2)):=hcc6 2 _ rfl;have hf6_0:w11.frozen? ⟨go5,(x5_1:Int).toNat * 3,none⟩=false:=hfr6 0;have hf6_1:w11.frozen? ⟨go5,(x5_1:Int).toNat * 3+1,none⟩=false:=hfr6 1;have hf6_2:w11.frozen? ⟨go5,(x5_1:Int).toNat * 3+2,none⟩=false:=hfr6 2;(try clear hcl6);(try clear hcc6);(try clear hfr6);(try clear hM6);replace p6:=eq_true p6;replace q6:=eq_true q6;have HX12:=Aside0.mk (show Kd.R k63 63 w11 w0.heap.size (fun k_=>(P0_ k_∨w.heap.size≤k_)) (.slice (some ⟨go5,0,none⟩) x0_1.length co9) y290 from qz109);obtain ⟨ce12,hcl12,hM12,hcc12,hfr12⟩:=Kd.R_elem HX12.out z63 (x5_1:Int) (of_decide_eq_true qz5) (by have h_:(x5_1:Int)<((x0_1.length:Int):Int):=of_decide_eq_true qz5;first|exact h_|(have e_:=(Kd.R_reads' HO_0.out).1;omega)|simpa using h_);obtain rfl:=k63_openM hM12;have HP12:=Kd.R_seg HX12.out (x5_1:Int) (of_decide_eq_true qz5) (by have h_:(x5_1:Int)<((x0_1.length:Int):Int):=of_decide_eq_true qz5;first|exact h_|(have e_:=(Kd.R_reads' HO_0.out).1;omega)|simpa using h_) (seg:=[.int .i64 (wrap64 (x1_1+1))]) (j:=1) hcl12 hcc12 (show 2≤3 from by decide) (x':=(⟨(rd_T63 y290 x5_1).f0,wrap64 (x1_1+1),(rd_T63 y290 x5_1).f2⟩:S63)) (k63_mkM _ _ _ (⟨(rd_T63 y290 x5_1).f0,wrap64 (x1_1+1),(rd_T63 y290 x5_1).f2⟩:S63) ) (fun _ hk=>hk);have hx12_1:=hcc12 1 _ rfl;(try simp only [show (k63).sz=3 from rfl,Nat.mul_one,Nat.add_zero] at hx12_1);have hf12_1:=hfr12 1;(try simp only [show (k63).sz=3 from rfl,Nat.mul_one,Nat.add_zero] at hf12_1);clear hcl12 hcc12 hfr12 hM12)|((with_reducible refine gate_store (t:=3) (p:=23) rfl ?_);refine store_event (t:=3) (p:=23) (v:=?vo_w13) (w1:=(w11.setCell ⟨go5,(x5_1:Int).toNat * 3+1,none⟩ (.int .i64 (wrap64 (x1_1+1))))) ?hg ?ho ?hn ?hr ?_;(case ho=>rfl);(case hg=>rfl);(case hn=>rfl);(case hr=>first|(go_simp;done)|(go_simp;rfl));intro w13 hw;have hg:w11.grownBy w13 (some go5):=(by rw [hw];exact HP12.2);have hp_:Kd.R k63 63 w13 w0.heap.size (fun k_=>(P0_ k_∨w.heap.size≤k_)) (.slice (some ⟨go5,0,none⟩) x0_1.length co9) y291:=(by rw [hw,Ny291.out];exact HP12.1);clear HP12;have n0_:=Aside0.mk (hp_);have n1_:=Aside0.mk ((by rw [hw];exact below_set (HB.out) GB5.out:Below w0.heap.size w0 w13));have n2_:=Aside0.mk (Kept.of_grown (S:=(fun k_=>P0_ k_)) hg qz64 (fun k_ e_=>(HO_0.out.1 k_ e_)));clear HO_0 HB HK;have HO_0:=n0_;have HB:=n1_;have HK:=n2_;clear n0_ n1_ n2_ hg hw hp_)|((with_reducible refine gate_callee (f:=55) rfl ?_);refine goesL_ (some 29) rfl rfl Tryz.func55 (by kernel_rfl) rfl #[.int .i64 (wrap64 ((wrap64 (x1_1+1))+1))] rfl qz2 ?_;(with_reducible refine (laws_markText.calls k1 (wrap64 ((wrap64 (x1_1+1))+1)) t292 _ A7.out).mono ?_);rintro e w14 ⟨rfl,hb⟩;refine ⟨_,rfl,?_⟩;have n0_:=Aside0.mk (Kd.R_below qz109 hb);have n1_:=Aside0.mk (Kept.below (S:=(fun k_=>P0_ k_)) qz64 hb);have n2_:=Aside0.mk (below_step qz1 hb);clear HO_0 HK HB;have HO_0:=n0_;have HK:=n1_;have HB:=n2_;clear n0_ n1_ n2_;(try clear hb);(try clear hb2);(try clear hk);(try clear hi);have p8:0≤(x5_1:Int):=of_decide_eq_true qz5;have q8:(x5_1:Int)<((x0_1.length:Int):Int):=of_decide_eq_true qz5;obtain ⟨ce8,hcl8,hM8,hcc8,hfr8⟩:=Kd.R_elem HO_0.out z63 (x5_1:Int) p8 q8;obtain rfl:=k63_openM hM8;have hx8_0:w14.cell? ⟨go5,(x5_1:Int).toNat * 3,none⟩=some (.int .i64 ((rd_T63 y291 x5_1).f0)):=hcc8 0 _ rfl;have hx8_1:w14.cell? ⟨go5,(x5_1:Int).toNat * 3+1,none⟩=some (.int .i64 ((rd_T63 y291 x5_1).f1)):=hcc8 1 _ rfl;have hx8_2:w14.cell? ⟨go5,(x5_1:Int).toNat * 3+2,none⟩=some (.string ((rd_T63 y291 x5_1).f2)):=hcc8 2 _ rfl;have hf8_0:w14.frozen? ⟨go5,(x5_1:Int).toNat * 3,none⟩=false:=hfr8 0;have hf8_1:w14.frozen? ⟨go5,(x5_1:Int).toNat * 3+1,none⟩=false:=hfr8 1;have hf8_2:w14.frozen? ⟨go5,(x5_1:Int).toNat * 3+2,none⟩=false:=hfr8 2;(try clear hcl8);(try clear hcc8);(try clear hfr8);(try clear hM8);replace p8:=eq_true p8;replace q8:=eq_true q8;have HX15:=Aside0.mk (show Kd.R k63 63 w14 w0.heap.size (fun k_=>(P0_ k_∨w.heap.size≤k_)) (.slice (some ⟨go5,0,none⟩) x0_1.length co9) y291 from qz109);obtain ⟨ce15,hcl15,hM15,hcc15,hfr15⟩:=Kd.R_elem HX15.out z63 (x5_1:Int) (of_decide_eq_true qz5) (by have h_:(x5_1:Int)<((x0_1.length:Int):Int):=of_decide_eq_true qz5;first|exact h_|(have e_:=(Kd.R_reads' HO_0.out).1;omega)|simpa using h_);obtain rfl:=k63_openM hM15;have HP15:=Kd.R_seg HX15.out (x5_1:Int) (of_decide_eq_true qz5) (by have h_:(x5_1:Int)<((x0_1.length:Int):Int):=of_decide_eq_true qz5;first|exact h_|(have e_:=(Kd.R_reads' HO_0.out).1;omega)|simpa using h_) (seg:=[.string t292]) (j:=2) hcl15 hcc15 (show 3≤3 from by decide) (x':=(⟨(rd_T63 y291 x5_1).f0,(rd_T63 y291 x5_1).f1,t292⟩:S63)) (k63_mkM _ _ _ (⟨(rd_T63 y291 x5_1).f0,(rd_T63 y291 x5_1).f1,t292⟩:S63) ) (fun _ hk=>hk);have hx15_2:=hcc15 2 _ rfl;(try simp only [show (k63).sz=3 from rfl,Nat.mul_one,Nat.add_zero] at hx15_2);have hf15_2:=hfr15 2;(try simp only [show (k63).sz=3 from rfl,Nat.mul_one,Nat.add_zero] at hf15_2);clear hcl15 hcc15 hfr15 hM15)|((with_reducible refine gate_store (t:=9) (p:=31) rfl ?_);refine store_event (t:=9) (p:=31) (v:=?vo_w16) (w1:=(w14.setCell ⟨go5,(x5_1:Int).toNat * 3+2,none⟩ (.string t292))) ?hg ?ho ?hn ?hr ?_;(case ho=>rfl);(case hg=>rfl);(case hn=>rfl);(case hr=>first|(go_simp;done)|(go_simp;rfl));intro w16 hw;have hg:w14.grownBy w16 (some go5):=(by rw [hw];exact HP15.2);have hp_:Kd.R k63 63 w16 w0.heap.size (fun k_=>(P0_ k_∨w.heap.size≤k_)) (.slice (some ⟨go5,0,none⟩) x0_1.length co9) y293:=(by rw [hw,Ny293.out];exact HP15.1);clear HP15;have n0_:=Aside0.mk (hp_);have n1_:=Aside0.mk ((by rw [hw];exact below_set (HB.out) GB5.out:Below w0.heap.size w0 w16));have n2_:=Aside0.mk (Kept.of_grown (S:=(fun k_=>P0_ k_)) hg qz64 (fun k_ e_=>(HO_0.out.1 k_ e_)));clear HO_0 HB HK;have HO_0:=n0_;have HB:=n1_;have HK:=n2_;clear n0_ n1_ n2_ hg hw hp_))
     go_roundg k1
     case measure=>have:=HK1.out;omega
     case rel=>exact ⟨(y293),(wrap64 ((wrap64 ((wrap64 (x1_1+1))+1))+1)),(wrap64 (x5_1+1)),qz9,qz9,H',⟨by have:=HK1.out;omega⟩,⟨qz109⟩,⟨qz64⟩,⟨qz3⟩⟩
    ·rw [if_neg c4] at H
     exact absurd H (by simp)
   ·rw [if_neg c3] at H
    have c3b0:decide (x5_1<(x0_1.length:Int))=false:=decide_eq_false c3
    clear c3
    simp only [Option.some.injEq,Prod.mk.injEq] at H
    obtain ⟨rfl,rfl⟩:=H
    obtain ⟨Ao17,co17,eo17⟩:=Kd.R_slice HO_0.out
    subst eo17
    go_wp2
    go_ret
    exact ⟨qz4,qz109,qz3,qz64⟩

/-! ### laws_markPrgGoal: function 9 -/
def laws_markPrgGoal.f (k:Nat) (a0_0:Int) (l0_1:List (S63)) (l0_2:List (S63)) (l0_3:List (S63)) (a1:Int):Option (Int × (List (S63)) × (List (S63)) × (List (S63))):=(laws_markTrmCellS.f k l0_1 a1).bind fun bt295=>((laws_markTrmCellS.f k l0_2 bt295.1).bind fun bt297=>((laws_markTrmCellS.f k l0_3 bt297.1).bind fun bt299=>(some (bt299.1,bt295.2,bt297.2,bt299.2))))
set_option maxHeartbeats 8000000 in
set_option maxRecDepth 100000 in
theorem laws_markPrgGoal.calls (k:Nat) (a0_0:Int) (P0_1_:Nat→Prop) (u9000_:Value) (l0_1:List (S63)) (P0_2_:Nat→Prop) (u9001_:Value) (l0_2:List (S63)) (P0_3_:Nat→Prop) (u9002_:Value) (l0_3:List (S63)) (a1:Int) (r1:Int) (r2:List (S63)) (r3:List (S63)) (r4:List (S63)) (w0 w:World) (hB:Below w0.heap.size w0 w) (ho0_1:Kd.R k63 63 w w0.heap.size P0_1_ u9000_ l0_1) (hp0_1_0_2:∀ k_,P0_1_ k_→¬ P0_2_ k_) (hp0_1_0_3:∀ k_,P0_1_ k_→¬ P0_3_ k_) (ho0_2:Kd.R k63 63 w w0.heap.size P0_2_ u9001_ l0_2) (hp0_2_0_1:∀ k_,P0_2_ k_→¬ P0_1_ k_) (hp0_2_0_3:∀ k_,P0_2_ k_→¬ P0_3_ k_) (ho0_3:Kd.R k63 63 w w0.heap.size P0_3_ u9002_ l0_3) (hp0_3_0_1:∀ k_,P0_3_ k_→¬ P0_1_ k_) (hp0_3_0_2:∀ k_,P0_3_ k_→¬ P0_2_ k_) (h:laws_markPrgGoal.f k a0_0 l0_1 l0_2 l0_3 a1=some (r1,r2,r3,r4)) :
  Calls Tryz.prog 9 #[.agg #[.int .i64 a0_0,u9000_,u9001_,u9002_],.int .i64 a1] w fun e w'=>e = .returned (.int .i64 r1)∧Kd.R k63 63 w' w0.heap.size (fun k_=>((P0_1_ k_∨P0_2_ k_∨P0_3_ k_)∨w.heap.size≤k_)) u9000_ r2∧Kd.R k63 63 w' w0.heap.size (fun k_=>((P0_1_ k_∨P0_2_ k_∨P0_3_ k_)∨w.heap.size≤k_)) u9001_ r3∧Kd.R k63 63 w' w0.heap.size (fun k_=>((P0_1_ k_∨P0_2_ k_∨P0_3_ k_)∨w.heap.size≤k_)) u9002_ r4∧Below w0.heap.size w0 w'∧Kept w w' (fun k_=>P0_1_ k_∨P0_2_ k_∨P0_3_ k_):=by
 have hu24:=Tryz.underlying24
 have HO0_1:=Aside0.mk (show Kd.R k63 63 w w0.heap.size (fun k_=>((P0_1_ k_∨P0_2_ k_∨P0_3_ k_)∨w.heap.size≤k_)∧some k_≠(u9001_:Value).ownBlock∧some k_≠(u9002_:Value).ownBlock) u9000_ l0_1 from Kd.R_mono ho0_1 (fun k_ hk=>⟨(.inl (.inl hk)),fun e_=>hp0_1_0_2 k_ hk (ho0_2.1 k_ e_.symm),fun e_=>hp0_1_0_3 k_ hk (ho0_3.1 k_ e_.symm)⟩))
 have HO0_2:=Aside0.mk (show Kd.R k63 63 w w0.heap.size (fun k_=>((P0_1_ k_∨P0_2_ k_∨P0_3_ k_)∨w.heap.size≤k_)∧some k_≠(u9000_:Value).ownBlock∧some k_≠(u9002_:Value).ownBlock) u9001_ l0_2 from Kd.R_mono ho0_2 (fun k_ hk=>⟨(.inl (.inr (.inl hk))),fun e_=>hp0_2_0_1 k_ hk (ho0_1.1 k_ e_.symm),fun e_=>hp0_2_0_3 k_ hk (ho0_3.1 k_ e_.symm)⟩))
 have HO0_3:=Aside0.mk (show Kd.R k63 63 w w0.heap.size (fun k_=>((P0_1_ k_∨P0_2_ k_∨P0_3_ k_)∨w.heap.size≤k_)∧some k_≠(u9000_:Value).ownBlock∧some k_≠(u9001_:Value).ownBlock) u9002_ l0_3 from Kd.R_mono ho0_3 (fun k_ hk=>⟨(.inl (.inr (.inr hk))),fun e_=>hp0_3_0_1 k_ hk (ho0_1.1 k_ e_.symm),fun e_=>hp0_3_0_2 k_ hk (ho0_2.1 k_ e_.symm)⟩))
 have HK:=Aside0.mk (Kept.refl w (fun k_=>P0_1_ k_∨P0_2_ k_∨P0_3_ k_))
 have HW0:=Aside0.mk hB.size
 have HB:=Aside0.mk hB
 clear hB
 have H:((laws_markTrmCellS.f k l0_1 a1).bind fun bt295=>((laws_markTrmCellS.f k l0_2 bt295.1).bind fun bt297=>((laws_markTrmCellS.f k l0_3 bt297.1).bind fun bt299=>(some (bt299.1,bt295.2,bt297.2,bt299.2)))))=some (r1,r2,r3,r4):=h
 clear h
 replace H:=Option.bind_eq_some_iff.mp H
 obtain ⟨⟨t295,t296⟩,A30,H⟩:=H
 try dsimp only at H
 have A3:=Aside0.mk A30
 clear A30
 replace H:=Option.bind_eq_some_iff.mp H
 obtain ⟨⟨t297,t298⟩,A40,H⟩:=H
 try dsimp only at H
 have A4:=Aside0.mk A40
 clear A40
 replace H:=Option.bind_eq_some_iff.mp H
 obtain ⟨⟨t299,t300⟩,A50,H⟩:=H
 try dsimp only at H
 have A5:=Aside0.mk A50
 clear A50
 simp only [Option.some.injEq,Prod.mk.injEq] at H
 obtain ⟨rfl,rfl,rfl,rfl⟩:=H
 obtain ⟨Ao6,co6,eo6⟩:=Kd.R_slice HO0_1.out
 subst eo6
 obtain ⟨Ao7,co7,eo7⟩:=Kd.R_slice HO0_2.out
 subst eo7
 obtain ⟨Ao8,co8,eo8⟩:=Kd.R_slice HO0_3.out
 subst eo8
 go_enter Tryz.func9,Tryz.ntmps9
 go_wp2_with (first|((with_reducible refine gate_dst (N:=2) rfl ?_);refine box_event ?hg (N:=2) ?hd (cs:=#[.int .i64 a0_0,.slice Ao6 l0_1.length co6,.slice Ao7 l0_2.length co7,.slice Ao8 l0_3.length co8]) (t:=24) ?hr ?_;(case hd=>rfl);(case hg=>rfl);(case hr=>first|(go_simp;done)|(go_simp;rfl));intro gb294 hg w9 hbox hb;have n0_:=Aside0.mk (Kd.R_below (by (with_reducible repeat (first|apply Kd.R_alloc|apply Kd.R_drewN|apply Kd.R_drew));exact HO0_1.out) hb);have n1_:=Aside0.mk (Kd.R_below (by (with_reducible repeat (first|apply Kd.R_alloc|apply Kd.R_drewN|apply Kd.R_drew));exact HO0_2.out) hb);have n2_:=Aside0.mk (Kd.R_below (by (with_reducible repeat (first|apply Kd.R_alloc|apply Kd.R_drewN|apply Kd.R_drew));exact HO0_3.out) hb);have n3_:=Aside0.mk (Kept.below (S:=(fun k_=>P0_1_ k_∨P0_2_ k_∨P0_3_ k_)) qz64 hb);have n4_:=Aside0.mk (below_step qz1 hb);have n5_:=Aside0.mk (hbox);have n6_:=Aside0.mk ((by rw [hg];exact (by first|exact HK.out.1|exact (show Kept w _ (fun k_=>P0_1_ k_∨P0_2_ k_∨P0_3_ k_) from qz64).1):w.heap.size≤gb294));have n7_:=Aside0.mk ((by rw [hg];exact (below_size qz1):w0.heap.size≤gb294));clear HO0_1 HO0_2 HO0_3 HK HB;have HO0_1:=n0_;have HO0_2:=n1_;have HO0_3:=n2_;have HK:=n3_;have HB:=n4_;have BK294:=n5_;have GW294:=n6_;have GE294:=n7_;clear n0_ n1_ n2_ n3_ n4_ n5_ n6_ n7_ hb hbox hg;have hcz10_0:w9.cell? ⟨gb294,0,none⟩=some (.int .i64 a0_0):=(blk_cell BK294.out 0).trans rfl;have hcz10_1:w9.cell? ⟨gb294,1,none⟩=some (.slice Ao6 l0_1.length co6):=(blk_cell BK294.out 1).trans rfl;have hcz10_2:w9.cell? ⟨gb294,2,none⟩=some (.slice Ao7 l0_2.length co7):=(blk_cell BK294.out 2).trans rfl;have hcz10_3:w9.cell? ⟨gb294,3,none⟩=some (.slice Ao8 l0_3.length co8):=(blk_cell BK294.out 3).trans rfl;have hfz10_0:=blk_frozen BK294.out 0;have hfz10_1:=blk_frozen BK294.out 1;have hfz10_2:=blk_frozen BK294.out 2;have hfz10_3:=blk_frozen BK294.out 3)|((with_reducible refine gate_callee (f:=29) rfl ?_);refine goesL_ (some 8) rfl rfl Tryz.func29 (by kernel_rfl) rfl #[.slice Ao6 l0_1.length co6,.int .i64 a1] rfl qz2 ?_;(with_reducible refine (laws_markTrmCellS.calls k (fun k_=>some k_=(.slice Ao6 l0_1.length co6:Value).ownBlock) (.slice Ao6 l0_1.length co6) l0_1 a1 t295 t296 w0 _ ?side1 ?side2 A3.out).mono ?_);(case side1=>exact qz111);(case side2=>exact Kd.R_tight rfl HO0_1.out);rintro e w11 ⟨rfl,hy0,hb,hkp⟩;refine ⟨_,rfl,?_⟩;have n0_:=Aside0.mk (Kd.R_reok rfl hy0 (fun k_ e_=>HO0_1.out.1 k_ e_));have n1_:=Aside0.mk (Kd.R_mono (ok':=fun k_=>((P0_1_ k_∨P0_2_ k_∨P0_3_ k_)∨w.heap.size≤k_)∧some k_≠(.slice Ao6 l0_1.length co6:Value).ownBlock∧some k_≠(.slice Ao8 l0_3.length co8:Value).ownBlock) (Kd.R_keptB (HO0_2.out) hkp (fun k_ hk_ hs_=>(hk_.2.1) hs_)) (fun k_ hk_=>⟨hk_.1.1,hk_.1.2.1,hk_.1.2.2⟩));have n2_:=Aside0.mk (Kd.R_mono (ok':=fun k_=>((P0_1_ k_∨P0_2_ k_∨P0_3_ k_)∨w.heap.size≤k_)∧some k_≠(.slice Ao6 l0_1.length co6:Value).ownBlock∧some k_≠(.slice Ao7 l0_2.length co7:Value).ownBlock) (Kd.R_keptB (HO0_3.out) hkp (fun k_ hk_ hs_=>(hk_.2.1) hs_)) (fun k_ hk_=>⟨hk_.1.1,hk_.1.2.1,hk_.1.2.2⟩));have n3_:=Aside0.mk (blk_kept qz149 hkp (fun hs_=>(fun e_=>absurd e_ (by first|exact Kd.R_ne HO0_1.out BK294.out (by decide)|exact fun he_=>(HO0_1.out.1 _ he_.symm).2 rfl)) hs_));have n4_:=Aside0.mk (Kept.then_ (S:=(fun k_=>P0_1_ k_∨P0_2_ k_∨P0_3_ k_)) qz110 hkp (fun k_ hs_=>(fun e_=>(HO0_1.out.1 k_ e_.symm).1) hs_));have n5_:=Aside0.mk (hb);clear HO0_1 HO0_2 HO0_3 BK294 HK HB;have HO0_1:=n0_;have HO0_2:=n1_;have HO0_3:=n2_;have BK294:=n3_;have HK:=n4_;have HB:=n5_;clear n0_ n1_ n2_ n3_ n4_ n5_;(try clear hb);(try clear hkp);(try clear hy0);have hcz12_0:w11.cell? ⟨gb294,0,none⟩=some (.int .i64 a0_0):=(blk_cell BK294.out 0).trans rfl;have hcz12_1:w11.cell? ⟨gb294,1,none⟩=some (.slice Ao6 l0_1.length co6):=(blk_cell BK294.out 1).trans rfl;have hcz12_2:w11.cell? ⟨gb294,2,none⟩=some (.slice Ao7 l0_2.length co7):=(blk_cell BK294.out 2).trans rfl;have hcz12_3:w11.cell? ⟨gb294,3,none⟩=some (.slice Ao8 l0_3.length co8):=(blk_cell BK294.out 3).trans rfl;have hfz12_0:=blk_frozen BK294.out 0;have hfz12_1:=blk_frozen BK294.out 1;have hfz12_2:=blk_frozen BK294.out 2;have hfz12_3:=blk_frozen BK294.out 3)|((with_reducible refine gate_callee (f:=29) rfl ?_);refine goesL_ (some 12) rfl rfl Tryz.func29 (by kernel_rfl) rfl #[.slice Ao7 l0_2.length co7,.int .i64 t295] rfl qz2 ?_;(with_reducible refine (laws_markTrmCellS.calls k (fun k_=>some k_=(.slice Ao7 l0_2.length co7:Value).ownBlock) (.slice Ao7 l0_2.length co7) l0_2 t295 t297 t298 w0 _ ?side1 ?side2 A4.out).mono ?_);(case side1=>exact qz111);(case side2=>exact Kd.R_tight rfl HO0_2.out);rintro e w13 ⟨rfl,hy0,hb,hkp⟩;refine ⟨_,rfl,?_⟩;have n0_:=Aside0.mk (Kd.R_mono (ok':=fun k_=>((P0_1_ k_∨P0_2_ k_∨P0_3_ k_)∨w.heap.size≤k_)∧some k_≠(.slice Ao7 l0_2.length co7:Value).ownBlock∧some k_≠(.slice Ao8 l0_3.length co8:Value).ownBlock) (Kd.R_keptB (HO0_1.out) hkp (fun k_ hk_ hs_=>(hk_.2.1) hs_)) (fun k_ hk_=>⟨hk_.1.1,hk_.1.2.1,hk_.1.2.2⟩));have n1_:=Aside0.mk (Kd.R_reok rfl hy0 (fun k_ e_=>HO0_2.out.1 k_ e_));have n2_:=Aside0.mk (Kd.R_mono (ok':=fun k_=>((P0_1_ k_∨P0_2_ k_∨P0_3_ k_)∨w.heap.size≤k_)∧some k_≠(.slice Ao6 l0_1.length co6:Value).ownBlock∧some k_≠(.slice Ao7 l0_2.length co7:Value).ownBlock) (Kd.R_keptB (HO0_3.out) hkp (fun k_ hk_ hs_=>(hk_.2.2) hs_)) (fun k_ hk_=>⟨hk_.1.1,hk_.1.2.1,hk_.1.2.2⟩));have n3_:=Aside0.mk (blk_kept qz149 hkp (fun hs_=>(fun e_=>absurd e_ (by first|exact Kd.R_ne HO0_2.out BK294.out (by decide)|exact fun he_=>(HO0_2.out.1 _ he_.symm).2 rfl)) hs_));have n4_:=Aside0.mk (Kept.then_ (S:=(fun k_=>P0_1_ k_∨P0_2_ k_∨P0_3_ k_)) qz110 hkp (fun k_ hs_=>(fun e_=>(HO0_2.out.1 k_ e_.symm).1) hs_));have n5_:=Aside0.mk (hb);clear HO0_1 HO0_2 HO0_3 BK294 HK HB;have HO0_1:=n0_;have HO0_2:=n1_;have HO0_3:=n2_;have BK294:=n3_;have HK:=n4_;have HB:=n5_;clear n0_ n1_ n2_ n3_ n4_ n5_;(try clear hb);(try clear hkp);(try clear hy0);have hcz14_0:w13.cell? ⟨gb294,0,none⟩=some (.int .i64 a0_0):=(blk_cell BK294.out 0).trans rfl;have hcz14_1:w13.cell? ⟨gb294,1,none⟩=some (.slice Ao6 l0_1.length co6):=(blk_cell BK294.out 1).trans rfl;have hcz14_2:w13.cell? ⟨gb294,2,none⟩=some (.slice Ao7 l0_2.length co7):=(blk_cell BK294.out 2).trans rfl;have hcz14_3:w13.cell? ⟨gb294,3,none⟩=some (.slice Ao8 l0_3.length co8):=(blk_cell BK294.out 3).trans rfl;have hfz14_0:=blk_frozen BK294.out 0;have hfz14_1:=blk_frozen BK294.out 1;have hfz14_2:=blk_frozen BK294.out 2;have hfz14_3:=blk_frozen BK294.out 3)|((with_reducible refine gate_callee (f:=29) rfl ?_);refine goesL_ (some 16) rfl rfl Tryz.func29 (by kernel_rfl) rfl #[.slice Ao8 l0_3.length co8,.int .i64 t297] rfl qz2 ?_;(with_reducible refine (laws_markTrmCellS.calls k (fun k_=>some k_=(.slice Ao8 l0_3.length co8:Value).ownBlock) (.slice Ao8 l0_3.length co8) l0_3 t297 t299 t300 w0 _ ?side1 ?side2 A5.out).mono ?_);(case side1=>exact qz111);(case side2=>exact Kd.R_tight rfl HO0_3.out);rintro e w15 ⟨rfl,hy0,hb,hkp⟩;refine ⟨_,rfl,?_⟩;have n0_:=Aside0.mk (Kd.R_mono (ok':=fun k_=>((P0_1_ k_∨P0_2_ k_∨P0_3_ k_)∨w.heap.size≤k_)∧some k_≠(.slice Ao7 l0_2.length co7:Value).ownBlock∧some k_≠(.slice Ao8 l0_3.length co8:Value).ownBlock) (Kd.R_keptB (HO0_1.out) hkp (fun k_ hk_ hs_=>(hk_.2.2) hs_)) (fun k_ hk_=>⟨hk_.1.1,hk_.1.2.1,hk_.1.2.2⟩));have n1_:=Aside0.mk (Kd.R_mono (ok':=fun k_=>((P0_1_ k_∨P0_2_ k_∨P0_3_ k_)∨w.heap.size≤k_)∧some k_≠(.slice Ao6 l0_1.length co6:Value).ownBlock∧some k_≠(.slice Ao8 l0_3.length co8:Value).ownBlock) (Kd.R_keptB (HO0_2.out) hkp (fun k_ hk_ hs_=>(hk_.2.2) hs_)) (fun k_ hk_=>⟨hk_.1.1,hk_.1.2.1,hk_.1.2.2⟩));have n2_:=Aside0.mk (Kd.R_reok rfl hy0 (fun k_ e_=>HO0_3.out.1 k_ e_));have n3_:=Aside0.mk (blk_kept qz149 hkp (fun hs_=>(fun e_=>absurd e_ (by first|exact Kd.R_ne HO0_3.out BK294.out (by decide)|exact fun he_=>(HO0_3.out.1 _ he_.symm).2 rfl)) hs_));have n4_:=Aside0.mk (Kept.then_ (S:=(fun k_=>P0_1_ k_∨P0_2_ k_∨P0_3_ k_)) qz110 hkp (fun k_ hs_=>(fun e_=>(HO0_3.out.1 k_ e_.symm).1) hs_));have n5_:=Aside0.mk (hb);clear HO0_1 HO0_2 HO0_3 BK294 HK HB;have HO0_1:=n0_;have HO0_2:=n1_;have HO0_3:=n2_;have BK294:=n3_;have HK:=n4_;have HB:=n5_;clear n0_ n1_ n2_ n3_ n4_ n5_;(try clear hb);(try clear hkp);(try clear hy0)))
 go_ret
 exact ⟨qz4,by (with_reducible repeat (first|apply Kd.R_alloc|apply Kd.R_drewN|apply Kd.R_drew));exact Kd.R_mono HO0_1.out (fun _ hk=>hk.1),by (with_reducible repeat (first|apply Kd.R_alloc|apply Kd.R_drewN|apply Kd.R_drew));exact Kd.R_mono HO0_2.out (fun _ hk=>hk.1),by (with_reducible repeat (first|apply Kd.R_alloc|apply Kd.R_drewN|apply Kd.R_drew));exact Kd.R_mono HO0_3.out (fun _ hk=>hk.1),qz111,qz110⟩

/-! ### laws_heldTrmCellS: function 30 -/
def laws_heldTrmCellS.l0:Nat→List (S63)→Int→Int→Option (Int)
 | 0,_,_,_=>none
 | k+1,x0,x1,x5=>if x5<(x0.length:Int) then (if 0≤x5 then (if ((rd_T63 x0 x5).f0)=x1 then (if ((rd_T63 x0 x5).f1)=(wrap64 (x1+1)) then ((laws_markText.f k (wrap64 ((wrap64 (x1+1))+1))).bind fun t304=>(if ((rd_T63 x0 x5).f2).toList=t304.toList then (laws_heldTrmCellS.l0 k x0 (wrap64 ((wrap64 ((wrap64 (x1+1))+1))+1)) (wrap64 (x5+1))) else (some (-1)))) else (some (-1))) else (some (-1))) else (none)) else (some x1)
def laws_heldTrmCellS.f (k:Nat) (l0:List (S63)) (a1:Int):Option (Int):=laws_heldTrmCellS.l0 k l0 a1 0
def laws_heldTrmCellS.T10:Bool × List (List Nat × List Nat):=(true,[([],[]),([],[]),([0,1],[0,1]),([2],[2]),([3],[3]),([],[]),([5],[5]),([4,6],[4,6])])
def laws_heldTrmCellS.B10:List Nat:=[0,0,3,7,15,0,32,127]
theorem laws_heldTrmCellS.tab10:rtab .any (opsOf Tryz.f30 10)=laws_heldTrmCellS.T10:=by kernel_rfl
theorem laws_heldTrmCellS.bits10:waitsOk laws_heldTrmCellS.T10.2 laws_heldTrmCellS.B10=true:=by kernel_rfl
set_option maxHeartbeats 8000000 in
set_option maxRecDepth 100000 in
theorem laws_heldTrmCellS.calls (k:Nat) (A0:Option Addr) (c0:Nat) (l0:List (S63)) (a1:Int) (r:Int) (w:World) (hr0:Kd.C k63 w A0 l0.length l0) (hc0:l0.length≤c0) (h:laws_heldTrmCellS.f k l0 a1=some r) :
  Calls Tryz.prog 30 #[.slice A0 l0.length c0,.int .i64 a1] w fun e w'=>e = .returned (.int .i64 r)∧Below w.heap.size w w':=by
 have HR0:=Aside0.mk hr0
 have HC0:=Aside0.mk hc0
 clear hr0 hc0
 have HB:=Aside0.mk (Below.refl w.heap.size w)
 have H:(laws_heldTrmCellS.l0 k l0 a1 0)=some r:=h
 clear h
 have H':=Aside0.mk H
 clear H
 go_enter Tryz.func30,Tryz.ntmps30
 go_wp2
 go_loopg [1,5] k (fun kq v1 v5 w'=>∃ (x1_1:Int) (x5_1:Int),v1 = .int .i64 x1_1∧v5 = .int .i64 x5_1∧Aside0 (laws_heldTrmCellS.l0 kq l0 x1_1 x5_1=some r)∧Aside0 (kq≤k)∧Aside0 (Below w.heap.size w w'))
 case atStart=>exact ⟨(a1),(0),qz9,qz9,H',⟨Nat.le_refl _⟩,⟨qz3⟩⟩
 case round=>
  clear H'
  try clear p2
  obtain ⟨x1_1,x5_1,rfl,rfl,HA,HK1,HB⟩:=hrel
  cases gk with
  | zero=>exact absurd HA.out (by simp [laws_heldTrmCellS.l0])
  | succ k1=>
   have H:=HA.out
   clear HA
   simp only [laws_heldTrmCellS.l0] at H
   by_cases c3:x5_1<(l0.length:Int)
   ·rw [if_pos c3] at H
    have c3b0:decide (x5_1<(l0.length:Int))=true:=decide_eq_true c3
    clear c3
    by_cases c4:0≤x5_1
    ·rw [if_pos c4] at H
     have c4b0:decide (0≤x5_1)=true:=decide_eq_true c4
     clear c4
     by_cases c5:((rd_T63 l0 x5_1).f0)=x1_1
     ·rw [if_pos c5] at H
      have c5b0:(((rd_T63 l0 x5_1).f0) == x1_1)=true:=beq_iff_eq.mpr c5
      have c5b1:(((rd_T63 l0 x5_1).f0) != x1_1)=false:=bne_eq_false_iff_eq.mpr c5
      clear c5
      by_cases c6:((rd_T63 l0 x5_1).f1)=(wrap64 (x1_1+1))
      ·rw [if_pos c6] at H
       have c6b0:(((rd_T63 l0 x5_1).f1) == (wrap64 (x1_1+1)))=true:=beq_iff_eq.mpr c6
       have c6b1:(((rd_T63 l0 x5_1).f1) != (wrap64 (x1_1+1)))=false:=bne_eq_false_iff_eq.mpr c6
       clear c6
       replace H:=Option.bind_eq_some_iff.mp H
       obtain ⟨t304,A70,H⟩:=H
       try dsimp only at H
       have A7:=Aside0.mk A70
       clear A70
       by_cases c8:((rd_T63 l0 x5_1).f2).toList=t304.toList
       ·rw [if_pos c8] at H
        have c8b0:(((rd_T63 l0 x5_1).f2).toList == t304.toList)=true:=beq_iff_eq.mpr c8
        have c8b1:(((rd_T63 l0 x5_1).f2).toList != t304.toList)=false:=bne_eq_false_iff_eq.mpr c8
        clear c8
        have H':=Aside0.mk H
        clear H
        have p301:0≤(x5_1:Int):=of_decide_eq_true qz5
        have q301:x5_1<(l0.length:Int):=of_decide_eq_true qz5
        obtain ⟨ad301,e301,hx301_0,hx301_1,hx301_2⟩:=at_T63 HR0.out x5_1 p301 q301
        cases e301
        replace hx301_0:=(HB.out.cell (World.block_lt_of_cell? w _ hx301_0)).trans hx301_0
        replace hx301_1:=(HB.out.cell (World.block_lt_of_cell? w _ hx301_1)).trans hx301_1
        replace hx301_2:=(HB.out.cell (World.block_lt_of_cell? w _ hx301_2)).trans hx301_2
        replace p301:=eq_true p301
        replace q301:=eq_true q301
        have p302:0≤(x5_1:Int):=of_decide_eq_true qz5
        have q302:x5_1<(l0.length:Int):=of_decide_eq_true qz5
        obtain ⟨ad302,e302,hx302_0,hx302_1,hx302_2⟩:=at_T63 HR0.out x5_1 p302 q302
        obtain rfl:ad301=ad302:=(by injection e302)
        replace hx302_0:=(HB.out.cell (World.block_lt_of_cell? w _ hx302_0)).trans hx302_0
        replace hx302_1:=(HB.out.cell (World.block_lt_of_cell? w _ hx302_1)).trans hx302_1
        replace hx302_2:=(HB.out.cell (World.block_lt_of_cell? w _ hx302_2)).trans hx302_2
        replace p302:=eq_true p302
        replace q302:=eq_true q302
        try go_wp2
        have n0_:=Aside0.mk (below_drew1 HB.out)
        clear HB
        have HB:=n0_
        clear n0_
        have p303:0≤(x5_1:Int):=of_decide_eq_true qz5
        have q303:x5_1<(l0.length:Int):=of_decide_eq_true qz5
        obtain ⟨ad303,e303,hx303_0,hx303_1,hx303_2⟩:=at_T63 HR0.out x5_1 p303 q303
        have hw303_2:=hx303_2
        have hw303_1:=hx303_1
        have hw303_0:=hx303_0
        obtain rfl:ad301=ad303:=(by injection e303)
        replace hx303_0:=(HB.out.cell (World.block_lt_of_cell? w _ hx303_0)).trans hx303_0
        replace hx303_1:=(HB.out.cell (World.block_lt_of_cell? w _ hx303_1)).trans hx303_1
        replace hx303_2:=(HB.out.cell (World.block_lt_of_cell? w _ hx303_2)).trans hx303_2
        replace p303:=eq_true p303
        replace q303:=eq_true q303
        refine start_ (n:=8) (S:=fun w'=>w'.cell? (ad301.add ((x5_1).toNat * 3))=some (.int .i64 ((rd_T63 l0 x5_1).f0))∧w'.cell? ⟨(ad301.add ((x5_1).toNat * 3)).block,(ad301.add ((x5_1).toNat * 3)).off+1,none⟩=some (.int .i64 ((rd_T63 l0 x5_1).f1))∧w'.cell? ⟨(ad301.add ((x5_1).toNat * 3)).block,(ad301.add ((x5_1).toNat * 3)).off+2,none⟩=some (.string ((rd_T63 l0 x5_1).f2))) (ds:=[]) #[false,false,false,false,false,false,false,false] (by kernel_rfl) rfl rfl ⟨((HB.out.cell (World.block_lt_of_cell? w _ hw303_0)).trans hw303_0),((HB.out.cell (World.block_lt_of_cell? w _ hw303_1)).trans hw303_1),((HB.out.cell (World.block_lt_of_cell? w _ hw303_2)).trans hw303_2)⟩ (fun hHeld=>?_);refine with_tabW laws_heldTrmCellS.tab10 laws_heldTrmCellS.bits10 (fun HT_ HW_=>?_)
        generalize wr.drew=w9 at HB hx303_0 hx303_1 hx303_2 hHeld ⊢
        refine pure_ (i:=0) (N:=some 30) (v:=?_) (a':=?_) #[true,false,false,false,false,false,false,false] rfl rfl (any_of HT_.out (by kernel_rfl)) (fun _ _ _ h=>h) (Or.inl ⟨by rfl,?_⟩) ?_ ?_
        rotate_left
        ·intro w'
         go_simp
         with_reducible rfl
        rotate_left
        ·simp only [Act.put,List.setIfInBounds_toArray,List.set_cons_zero,List.set_cons_succ,i64_w,i32_w]
         rfl
        refine pure_ (i:=1) (N:=some 31) (v:=?_) (a':=?_) #[true,true,false,false,false,false,false,false] rfl rfl (any_of HT_.out (by kernel_rfl)) (fun _ _ _ h=>h) (Or.inl ⟨by rfl,?_⟩) ?_ ?_
        rotate_left
        ·intro w'
         go_simp
         with_reducible rfl
        rotate_left
        ·simp only [Act.put,List.setIfInBounds_toArray,List.set_cons_zero,List.set_cons_succ,i64_w,i32_w]
         rfl
        refine pure_ (i:=2) (N:=some 32) (v:=?_) (a':=?_) #[true,true,true,false,false,false,false,false] rfl rfl (any_of HT_.out (by kernel_rfl)) (fun _ _ _ h=>h) (Or.inl ⟨by rfl,?_⟩) ?_ ?_
        rotate_left
        ·intro w'
         go_simp
         with_reducible rfl
        rotate_left
        ·simp only [Act.put,List.setIfInBounds_toArray,List.set_cons_zero,List.set_cons_succ,i64_w,i32_w]
         rfl
        refine pure_ (i:=3) (N:=some 33) (v:=?_) (a':=?_) #[true,true,true,true,false,false,false,false] rfl rfl (any_of HT_.out (by kernel_rfl)) (fun _ _ _ h=>h) (Or.inl ⟨by rfl,?_⟩) ?_ ?_
        rotate_left
        ·intro w'
         go_simp
         with_reducible rfl
        rotate_left
        ·simp only [Act.put,List.setIfInBounds_toArray,List.set_cons_zero,List.set_cons_succ,i64_w,i32_w]
         rfl
        refine pure_ (i:=5) (N:=some 35) (v:=?_) (a':=?_) #[true,true,true,true,false,true,false,false] rfl rfl (any_of HT_.out (by kernel_rfl)) (fun _ _ _ h=>h) (Or.inl ⟨by rfl,?_⟩) ?_ ?_
        rotate_left
        ·intro w'
         go_simp
         with_reducible rfl
        rotate_left
        ·simp only [Act.put,List.setIfInBounds_toArray,List.set_cons_zero,List.set_cons_succ,i64_w,i32_w]
         rfl
        refine take_ (i:=4) (N:=some 34) (v:=?_) (a':=?_) #[true,true,true,true,true,true,false,false] rfl rfl (take_ofW HT_.out HW_.out (by kernel_rfl)) (fun _ _ _ h=>h) (Or.inl ⟨by rfl,?_⟩) hHeld ?_ ?_
        rotate_left
        ·rintro w' ⟨s0,s1,s2⟩
         go_simp
         with_reducible rfl
        rotate_left
        ·simp only [Act.put,List.setIfInBounds_toArray,List.set_cons_zero,List.set_cons_succ,i64_w,i32_w]
         rfl
        refine one_ (i:=6) (N:=some 36) #[true,true,true,true,true,true,true,false] rfl rfl (one_of HT_.out (by kernel_rfl)) (by decide) (fun K hK=>?_)
        refine goes_ Tryz.func55 (by kernel_rfl) rfl #[.int .i64 (wrap64 ((wrap64 (x1_1+1))+1))] (by rfl) rfl rfl qz2 ?_
        with_reducible refine (laws_markText.calls k1 (wrap64 ((wrap64 (x1_1+1))+1)) t304 _ A7.out).mono ?_
        rintro e w10 ⟨rfl,hb⟩
        refine ⟨_,rfl,?_⟩
        have n0_:=Aside0.mk (below_step qz1 hb)
        clear HB
        have HB:=n0_
        clear n0_
        (try clear hb)
        (try clear hb2)
        (try clear hk)
        (try clear hi)
        refine hK.out _ _ ⟨((HB.out.cell (World.block_lt_of_cell? w _ hw303_0)).trans hw303_0),((HB.out.cell (World.block_lt_of_cell? w _ hw303_1)).trans hw303_1),((HB.out.cell (World.block_lt_of_cell? w _ hw303_2)).trans hw303_2)⟩ (fun hHeld=>?_)
        clear hK K
        refine norm_ (a':=?_) ?_ ?_
        rotate_left
        ·show Act.put _ (some 36) _=_
         simp only [Act.put,List.setIfInBounds_toArray,List.set_cons_zero,List.set_cons_succ,i64_w,i32_w]
         rfl
        refine pure_ (i:=7) (N:=some 37) (v:=?_) (a':=?_) #[true,true,true,true,true,true,true,true] rfl rfl (any_of HT_.out (by kernel_rfl)) (fun _ _ _ h=>h) (Or.inl ⟨by rfl,?_⟩) ?_ ?_
        rotate_left
        ·intro w'
         go_simp
         with_reducible rfl
        rotate_left
        ·simp only [Act.put,List.setIfInBounds_toArray,List.set_cons_zero,List.set_cons_succ,i64_w,i32_w]
         rfl
        refine done_ (done_of HT_.out (by kernel_rfl)) ?_
        try go_wp2
        go_roundg k1
        case measure=>have:=HK1.out;omega
        case rel=>exact ⟨(wrap64 ((wrap64 ((wrap64 (x1_1+1))+1))+1)),(wrap64 (x5_1+1)),qz9,qz9,H',⟨by have:=HK1.out;omega⟩,⟨qz3⟩⟩
       ·rw [if_neg c8] at H
        have c8b0:(((rd_T63 l0 x5_1).f2).toList == t304.toList)=false:=beq_eq_false_iff_ne.mpr c8
        have c8b1:(((rd_T63 l0 x5_1).f2).toList != t304.toList)=true:=bne_iff_ne.mpr c8
        obtain rfl:=Option.some.inj H
        have p301:0≤(x5_1:Int):=of_decide_eq_true qz5
        have q301:x5_1<(l0.length:Int):=of_decide_eq_true qz5
        obtain ⟨ad301,e301,hx301_0,hx301_1,hx301_2⟩:=at_T63 HR0.out x5_1 p301 q301
        cases e301
        replace hx301_0:=(HB.out.cell (World.block_lt_of_cell? w _ hx301_0)).trans hx301_0
        replace hx301_1:=(HB.out.cell (World.block_lt_of_cell? w _ hx301_1)).trans hx301_1
        replace hx301_2:=(HB.out.cell (World.block_lt_of_cell? w _ hx301_2)).trans hx301_2
        replace p301:=eq_true p301
        replace q301:=eq_true q301
        have p302:0≤(x5_1:Int):=of_decide_eq_true qz5
        have q302:x5_1<(l0.length:Int):=of_decide_eq_true qz5
        obtain ⟨ad302,e302,hx302_0,hx302_1,hx302_2⟩:=at_T63 HR0.out x5_1 p302 q302
        obtain rfl:ad301=ad302:=(by injection e302)
        replace hx302_0:=(HB.out.cell (World.block_lt_of_cell? w _ hx302_0)).trans hx302_0
        replace hx302_1:=(HB.out.cell (World.block_lt_of_cell? w _ hx302_1)).trans hx302_1
        replace hx302_2:=(HB.out.cell (World.block_lt_of_cell? w _ hx302_2)).trans hx302_2
        replace p302:=eq_true p302
        replace q302:=eq_true q302
        try go_wp2
        have n0_:=Aside0.mk (below_drew1 HB.out)
        clear HB
        have HB:=n0_
        clear n0_
        have p303:0≤(x5_1:Int):=of_decide_eq_true qz5
        have q303:x5_1<(l0.length:Int):=of_decide_eq_true qz5
        obtain ⟨ad303,e303,hx303_0,hx303_1,hx303_2⟩:=at_T63 HR0.out x5_1 p303 q303
        have hw303_2:=hx303_2
        have hw303_1:=hx303_1
        have hw303_0:=hx303_0
        obtain rfl:ad301=ad303:=(by injection e303)
        replace hx303_0:=(HB.out.cell (World.block_lt_of_cell? w _ hx303_0)).trans hx303_0
        replace hx303_1:=(HB.out.cell (World.block_lt_of_cell? w _ hx303_1)).trans hx303_1
        replace hx303_2:=(HB.out.cell (World.block_lt_of_cell? w _ hx303_2)).trans hx303_2
        replace p303:=eq_true p303
        replace q303:=eq_true q303
        refine start_ (n:=8) (S:=fun w'=>w'.cell? (ad301.add ((x5_1).toNat * 3))=some (.int .i64 ((rd_T63 l0 x5_1).f0))∧w'.cell? ⟨(ad301.add ((x5_1).toNat * 3)).block,(ad301.add ((x5_1).toNat * 3)).off+1,none⟩=some (.int .i64 ((rd_T63 l0 x5_1).f1))∧w'.cell? ⟨(ad301.add ((x5_1).toNat * 3)).block,(ad301.add ((x5_1).toNat * 3)).off+2,none⟩=some (.string ((rd_T63 l0 x5_1).f2))) (ds:=[]) #[false,false,false,false,false,false,false,false] (by kernel_rfl) rfl rfl ⟨((HB.out.cell (World.block_lt_of_cell? w _ hw303_0)).trans hw303_0),((HB.out.cell (World.block_lt_of_cell? w _ hw303_1)).trans hw303_1),((HB.out.cell (World.block_lt_of_cell? w _ hw303_2)).trans hw303_2)⟩ (fun hHeld=>?_);refine with_tabW laws_heldTrmCellS.tab10 laws_heldTrmCellS.bits10 (fun HT_ HW_=>?_)
        generalize wr.drew=w11 at HB hx303_0 hx303_1 hx303_2 hHeld ⊢
        refine pure_ (i:=0) (N:=some 30) (v:=?_) (a':=?_) #[true,false,false,false,false,false,false,false] rfl rfl (any_of HT_.out (by kernel_rfl)) (fun _ _ _ h=>h) (Or.inl ⟨by rfl,?_⟩) ?_ ?_
        rotate_left
        ·intro w'
         go_simp
         with_reducible rfl
        rotate_left
        ·simp only [Act.put,List.setIfInBounds_toArray,List.set_cons_zero,List.set_cons_succ,i64_w,i32_w]
         rfl
        refine pure_ (i:=1) (N:=some 31) (v:=?_) (a':=?_) #[true,true,false,false,false,false,false,false] rfl rfl (any_of HT_.out (by kernel_rfl)) (fun _ _ _ h=>h) (Or.inl ⟨by rfl,?_⟩) ?_ ?_
        rotate_left
        ·intro w'
         go_simp
         with_reducible rfl
        rotate_left
        ·simp only [Act.put,List.setIfInBounds_toArray,List.set_cons_zero,List.set_cons_succ,i64_w,i32_w]
         rfl
        refine pure_ (i:=2) (N:=some 32) (v:=?_) (a':=?_) #[true,true,true,false,false,false,false,false] rfl rfl (any_of HT_.out (by kernel_rfl)) (fun _ _ _ h=>h) (Or.inl ⟨by rfl,?_⟩) ?_ ?_
        rotate_left
        ·intro w'
         go_simp
         with_reducible rfl
        rotate_left
        ·simp only [Act.put,List.setIfInBounds_toArray,List.set_cons_zero,List.set_cons_succ,i64_w,i32_w]
         rfl
        refine pure_ (i:=3) (N:=some 33) (v:=?_) (a':=?_) #[true,true,true,true,false,false,false,false] rfl rfl (any_of HT_.out (by kernel_rfl)) (fun _ _ _ h=>h) (Or.inl ⟨by rfl,?_⟩) ?_ ?_
        rotate_left
        ·intro w'
         go_simp
         with_reducible rfl
        rotate_left
        ·simp only [Act.put,List.setIfInBounds_toArray,List.set_cons_zero,List.set_cons_succ,i64_w,i32_w]
         rfl
        refine pure_ (i:=5) (N:=some 35) (v:=?_) (a':=?_) #[true,true,true,true,false,true,false,false] rfl rfl (any_of HT_.out (by kernel_rfl)) (fun _ _ _ h=>h) (Or.inl ⟨by rfl,?_⟩) ?_ ?_
        rotate_left
        ·intro w'
         go_simp
         with_reducible rfl
        rotate_left
        ·simp only [Act.put,List.setIfInBounds_toArray,List.set_cons_zero,List.set_cons_succ,i64_w,i32_w]
         rfl
        refine take_ (i:=4) (N:=some 34) (v:=?_) (a':=?_) #[true,true,true,true,true,true,false,false] rfl rfl (take_ofW HT_.out HW_.out (by kernel_rfl)) (fun _ _ _ h=>h) (Or.inl ⟨by rfl,?_⟩) hHeld ?_ ?_
        rotate_left
        ·rintro w' ⟨s0,s1,s2⟩
         go_simp
         with_reducible rfl
        rotate_left
        ·simp only [Act.put,List.setIfInBounds_toArray,List.set_cons_zero,List.set_cons_succ,i64_w,i32_w]
         rfl
        refine one_ (i:=6) (N:=some 36) #[true,true,true,true,true,true,true,false] rfl rfl (one_of HT_.out (by kernel_rfl)) (by decide) (fun K hK=>?_)
        refine goes_ Tryz.func55 (by kernel_rfl) rfl #[.int .i64 (wrap64 ((wrap64 (x1_1+1))+1))] (by rfl) rfl rfl qz2 ?_
        with_reducible refine (laws_markText.calls k1 (wrap64 ((wrap64 (x1_1+1))+1)) t304 _ A7.out).mono ?_
        rintro e w12 ⟨rfl,hb⟩
        refine ⟨_,rfl,?_⟩
        have n0_:=Aside0.mk (below_step qz1 hb)
        clear HB
        have HB:=n0_
        clear n0_
        (try clear hb)
        (try clear hb2)
        (try clear hk)
        (try clear hi)
        refine hK.out _ _ ⟨((HB.out.cell (World.block_lt_of_cell? w _ hw303_0)).trans hw303_0),((HB.out.cell (World.block_lt_of_cell? w _ hw303_1)).trans hw303_1),((HB.out.cell (World.block_lt_of_cell? w _ hw303_2)).trans hw303_2)⟩ (fun hHeld=>?_)
        clear hK K
        refine norm_ (a':=?_) ?_ ?_
        rotate_left
        ·show Act.put _ (some 36) _=_
         simp only [Act.put,List.setIfInBounds_toArray,List.set_cons_zero,List.set_cons_succ,i64_w,i32_w]
         rfl
        refine pure_ (i:=7) (N:=some 37) (v:=?_) (a':=?_) #[true,true,true,true,true,true,true,true] rfl rfl (any_of HT_.out (by kernel_rfl)) (fun _ _ _ h=>h) (Or.inl ⟨by rfl,?_⟩) ?_ ?_
        rotate_left
        ·intro w'
         go_simp
         with_reducible rfl
        rotate_left
        ·simp only [Act.put,List.setIfInBounds_toArray,List.set_cons_zero,List.set_cons_succ,i64_w,i32_w]
         rfl
        refine done_ (done_of HT_.out (by kernel_rfl)) ?_
        try go_wp2
        go_ret
        exact ⟨qz4,qz3⟩
      ·rw [if_neg c6] at H
       have c6b0:(((rd_T63 l0 x5_1).f1) == (wrap64 (x1_1+1)))=false:=beq_eq_false_iff_ne.mpr c6
       have c6b1:(((rd_T63 l0 x5_1).f1) != (wrap64 (x1_1+1)))=true:=bne_iff_ne.mpr c6
       obtain rfl:=Option.some.inj H
       have p301:0≤(x5_1:Int):=of_decide_eq_true qz5
       have q301:x5_1<(l0.length:Int):=of_decide_eq_true qz5
       obtain ⟨ad301,e301,hx301_0,hx301_1,hx301_2⟩:=at_T63 HR0.out x5_1 p301 q301
       cases e301
       replace hx301_0:=(HB.out.cell (World.block_lt_of_cell? w _ hx301_0)).trans hx301_0
       replace hx301_1:=(HB.out.cell (World.block_lt_of_cell? w _ hx301_1)).trans hx301_1
       replace hx301_2:=(HB.out.cell (World.block_lt_of_cell? w _ hx301_2)).trans hx301_2
       replace p301:=eq_true p301
       replace q301:=eq_true q301
       have p302:0≤(x5_1:Int):=of_decide_eq_true qz5
       have q302:x5_1<(l0.length:Int):=of_decide_eq_true qz5
       obtain ⟨ad302,e302,hx302_0,hx302_1,hx302_2⟩:=at_T63 HR0.out x5_1 p302 q302
       obtain rfl:ad301=ad302:=(by injection e302)
       replace hx302_0:=(HB.out.cell (World.block_lt_of_cell? w _ hx302_0)).trans hx302_0
       replace hx302_1:=(HB.out.cell (World.block_lt_of_cell? w _ hx302_1)).trans hx302_1
       replace hx302_2:=(HB.out.cell (World.block_lt_of_cell? w _ hx302_2)).trans hx302_2
       replace p302:=eq_true p302
       replace q302:=eq_true q302
       go_wp2
       go_ret
       exact ⟨qz4,qz3⟩
     ·rw [if_neg c5] at H
      have c5b0:(((rd_T63 l0 x5_1).f0) == x1_1)=false:=beq_eq_false_iff_ne.mpr c5
      have c5b1:(((rd_T63 l0 x5_1).f0) != x1_1)=true:=bne_iff_ne.mpr c5
      obtain rfl:=Option.some.inj H
      have p301:0≤(x5_1:Int):=of_decide_eq_true qz5
      have q301:x5_1<(l0.length:Int):=of_decide_eq_true qz5
      obtain ⟨ad301,e301,hx301_0,hx301_1,hx301_2⟩:=at_T63 HR0.out x5_1 p301 q301
      cases e301
      replace hx301_0:=(HB.out.cell (World.block_lt_of_cell? w _ hx301_0)).trans hx301_0
      replace hx301_1:=(HB.out.cell (World.block_lt_of_cell? w _ hx301_1)).trans hx301_1
      replace hx301_2:=(HB.out.cell (World.block_lt_of_cell? w _ hx301_2)).trans hx301_2
      replace p301:=eq_true p301
      replace q301:=eq_true q301
      go_wp2
      go_ret
      exact ⟨qz4,qz3⟩
    ·rw [if_neg c4] at H
     exact absurd H (by simp)
   ·rw [if_neg c3] at H
    have c3b0:decide (x5_1<(l0.length:Int))=false:=decide_eq_false c3
    clear c3
    obtain rfl:=Option.some.inj H
    go_wp2
    go_ret
    exact ⟨qz4,qz3⟩

/-! ### laws_heldPrgGoal: function 10 -/
def laws_heldPrgGoal.f (k:Nat) (a0_0:Int) (l0_1:List (S63)) (l0_2:List (S63)) (l0_3:List (S63)) (a1:Int):Option (Int):=(laws_heldTrmCellS.f k l0_1 a1).bind fun t306=>(if t306<0 then (some (-1)) else ((laws_heldTrmCellS.f k l0_2 t306).bind fun t307=>(if t307<0 then (some (-1)) else ((laws_heldTrmCellS.f k l0_3 t307).bind fun t308=>(if t308<0 then (some (-1)) else (some t308))))))
set_option maxHeartbeats 8000000 in
set_option maxRecDepth 100000 in
theorem laws_heldPrgGoal.calls (k:Nat) (a0_0:Int) (A0_1:Option Addr) (c0_1:Nat) (l0_1:List (S63)) (A0_2:Option Addr) (c0_2:Nat) (l0_2:List (S63)) (A0_3:Option Addr) (c0_3:Nat) (l0_3:List (S63)) (a1:Int) (r:Int) (w:World) (hr0_1:Kd.C k63 w A0_1 l0_1.length l0_1) (hc0_1:l0_1.length≤c0_1) (hr0_2:Kd.C k63 w A0_2 l0_2.length l0_2) (hc0_2:l0_2.length≤c0_2) (hr0_3:Kd.C k63 w A0_3 l0_3.length l0_3) (hc0_3:l0_3.length≤c0_3) (h:laws_heldPrgGoal.f k a0_0 l0_1 l0_2 l0_3 a1=some r) :
  Calls Tryz.prog 10 #[.agg #[.int .i64 a0_0,.slice A0_1 l0_1.length c0_1,.slice A0_2 l0_2.length c0_2,.slice A0_3 l0_3.length c0_3],.int .i64 a1] w fun e w'=>e = .returned (.int .i64 r)∧Below w.heap.size w w':=by
 have hu24:=Tryz.underlying24
 have HR0_1:=Aside0.mk hr0_1
 have HC0_1:=Aside0.mk hc0_1
 clear hr0_1 hc0_1
 have HR0_2:=Aside0.mk hr0_2
 have HC0_2:=Aside0.mk hc0_2
 clear hr0_2 hc0_2
 have HR0_3:=Aside0.mk hr0_3
 have HC0_3:=Aside0.mk hc0_3
 clear hr0_3 hc0_3
 have HB:=Aside0.mk (Below.refl w.heap.size w)
 have H:((laws_heldTrmCellS.f k l0_1 a1).bind fun t306=>(if t306<0 then (some (-1)) else ((laws_heldTrmCellS.f k l0_2 t306).bind fun t307=>(if t307<0 then (some (-1)) else ((laws_heldTrmCellS.f k l0_3 t307).bind fun t308=>(if t308<0 then (some (-1)) else (some t308)))))))=some r:=h
 clear h
 replace H:=Option.bind_eq_some_iff.mp H
 obtain ⟨t306,A30,H⟩:=H
 try dsimp only at H
 have A3:=Aside0.mk A30
 clear A30
 by_cases c4:t306<0
 ·rw [if_pos c4] at H
  have c4b0:decide (t306<0)=true:=decide_eq_true c4
  clear c4
  obtain rfl:=Option.some.inj H
  go_enter Tryz.func10,Tryz.ntmps10
  go_wp2_with (first|((with_reducible refine gate_dst (N:=2) rfl ?_);refine box_event ?hg (N:=2) ?hd (cs:=#[.int .i64 a0_0,.slice A0_1 l0_1.length c0_1,.slice A0_2 l0_2.length c0_2,.slice A0_3 l0_3.length c0_3]) (t:=24) ?hr ?_;(case hd=>rfl);(case hg=>rfl);(case hr=>first|(go_simp;done)|(go_simp;rfl));intro gb305 hg w5 hbox hb;have n0_:=Aside0.mk (below_step qz1 hb);have n1_:=Aside0.mk (hbox);have n2_:=Aside0.mk ((by rw [hg];exact (below_size qz1):w.heap.size≤gb305));have n3_:=Aside0.mk ((by rw [hg];exact (below_size qz1):w.heap.size≤gb305));clear HB;have HB:=n0_;have BK305:=n1_;have GW305:=n2_;have GE305:=n3_;clear n0_ n1_ n2_ n3_ hb hbox hg;have hcz6_0:w5.cell? ⟨gb305,0,none⟩=some (.int .i64 a0_0):=(blk_cell BK305.out 0).trans rfl;have hcz6_1:w5.cell? ⟨gb305,1,none⟩=some (.slice A0_1 l0_1.length c0_1):=(blk_cell BK305.out 1).trans rfl;have hcz6_2:w5.cell? ⟨gb305,2,none⟩=some (.slice A0_2 l0_2.length c0_2):=(blk_cell BK305.out 2).trans rfl;have hcz6_3:w5.cell? ⟨gb305,3,none⟩=some (.slice A0_3 l0_3.length c0_3):=(blk_cell BK305.out 3).trans rfl;have hfz6_0:=blk_frozen BK305.out 0;have hfz6_1:=blk_frozen BK305.out 1;have hfz6_2:=blk_frozen BK305.out 2;have hfz6_3:=blk_frozen BK305.out 3)|((with_reducible refine gate_callee (f:=30) rfl ?_);refine goesL_ (some 8) rfl rfl Tryz.func30 (by kernel_rfl) rfl #[.slice A0_1 l0_1.length c0_1,.int .i64 a1] rfl qz2 ?_;(with_reducible refine (laws_heldTrmCellS.calls k _ _ l0_1 a1 t306 _ ?side1 ?side2 A3.out).mono ?_);(case side1=>exact qz6);(case side2=>exact HC0_1.out);rintro e w7 ⟨rfl,hb⟩;refine ⟨_,rfl,?_⟩;have n0_:=Aside0.mk (blk_below (g:=gb305) (o:=.cells #[.int .i64 a0_0,.slice A0_1 l0_1.length c0_1,.slice A0_2 l0_2.length c0_2,.slice A0_3 l0_3.length c0_3] 24 (0,0)) qz74 hb);have n1_:=Aside0.mk (below_step qz29 hb);clear BK305 HB;have BK305:=n0_;have HB:=n1_;clear n0_ n1_;(try clear hb);(try clear hb2);(try clear hk);(try clear hi)))
  go_ret
  exact ⟨qz4,qz29⟩
 ·rw [if_neg c4] at H
  have c4b0:decide (t306<0)=false:=decide_eq_false c4
  clear c4
  replace H:=Option.bind_eq_some_iff.mp H
  obtain ⟨t307,A80,H⟩:=H
  try dsimp only at H
  have A8:=Aside0.mk A80
  clear A80
  by_cases c9:t307<0
  ·rw [if_pos c9] at H
   have c9b0:decide (t307<0)=true:=decide_eq_true c9
   clear c9
   obtain rfl:=Option.some.inj H
   go_enter Tryz.func10,Tryz.ntmps10
   go_wp2_with (first|((with_reducible refine gate_dst (N:=2) rfl ?_);refine box_event ?hg (N:=2) ?hd (cs:=#[.int .i64 a0_0,.slice A0_1 l0_1.length c0_1,.slice A0_2 l0_2.length c0_2,.slice A0_3 l0_3.length c0_3]) (t:=24) ?hr ?_;(case hd=>rfl);(case hg=>rfl);(case hr=>first|(go_simp;done)|(go_simp;rfl));intro gb305 hg w10 hbox hb;have n0_:=Aside0.mk (below_step qz1 hb);have n1_:=Aside0.mk (hbox);have n2_:=Aside0.mk ((by rw [hg];exact (below_size qz1):w.heap.size≤gb305));have n3_:=Aside0.mk ((by rw [hg];exact (below_size qz1):w.heap.size≤gb305));clear HB;have HB:=n0_;have BK305:=n1_;have GW305:=n2_;have GE305:=n3_;clear n0_ n1_ n2_ n3_ hb hbox hg;have hcz11_0:w10.cell? ⟨gb305,0,none⟩=some (.int .i64 a0_0):=(blk_cell BK305.out 0).trans rfl;have hcz11_1:w10.cell? ⟨gb305,1,none⟩=some (.slice A0_1 l0_1.length c0_1):=(blk_cell BK305.out 1).trans rfl;have hcz11_2:w10.cell? ⟨gb305,2,none⟩=some (.slice A0_2 l0_2.length c0_2):=(blk_cell BK305.out 2).trans rfl;have hcz11_3:w10.cell? ⟨gb305,3,none⟩=some (.slice A0_3 l0_3.length c0_3):=(blk_cell BK305.out 3).trans rfl;have hfz11_0:=blk_frozen BK305.out 0;have hfz11_1:=blk_frozen BK305.out 1;have hfz11_2:=blk_frozen BK305.out 2;have hfz11_3:=blk_frozen BK305.out 3)|((with_reducible refine gate_callee (f:=30) rfl ?_);refine goesL_ (some 8) rfl rfl Tryz.func30 (by kernel_rfl) rfl #[.slice A0_1 l0_1.length c0_1,.int .i64 a1] rfl qz2 ?_;(with_reducible refine (laws_heldTrmCellS.calls k _ _ l0_1 a1 t306 _ ?side1 ?side2 A3.out).mono ?_);(case side1=>exact qz6);(case side2=>exact HC0_1.out);rintro e w12 ⟨rfl,hb⟩;refine ⟨_,rfl,?_⟩;have n0_:=Aside0.mk (blk_below (g:=gb305) (o:=.cells #[.int .i64 a0_0,.slice A0_1 l0_1.length c0_1,.slice A0_2 l0_2.length c0_2,.slice A0_3 l0_3.length c0_3] 24 (0,0)) qz74 hb);have n1_:=Aside0.mk (below_step qz29 hb);clear BK305 HB;have BK305:=n0_;have HB:=n1_;clear n0_ n1_;(try clear hb);(try clear hb2);(try clear hk);(try clear hi);have hcz13_0:w12.cell? ⟨gb305,0,none⟩=some (.int .i64 a0_0):=(blk_cell BK305.out 0).trans rfl;have hcz13_1:w12.cell? ⟨gb305,1,none⟩=some (.slice A0_1 l0_1.length c0_1):=(blk_cell BK305.out 1).trans rfl;have hcz13_2:w12.cell? ⟨gb305,2,none⟩=some (.slice A0_2 l0_2.length c0_2):=(blk_cell BK305.out 2).trans rfl;have hcz13_3:w12.cell? ⟨gb305,3,none⟩=some (.slice A0_3 l0_3.length c0_3):=(blk_cell BK305.out 3).trans rfl;have hfz13_0:=blk_frozen BK305.out 0;have hfz13_1:=blk_frozen BK305.out 1;have hfz13_2:=blk_frozen BK305.out 2;have hfz13_3:=blk_frozen BK305.out 3)|((with_reducible refine gate_callee (f:=30) rfl ?_);refine goesL_ (some 14) rfl rfl Tryz.func30 (by kernel_rfl) rfl #[.slice A0_2 l0_2.length c0_2,.int .i64 t306] rfl qz2 ?_;(with_reducible refine (laws_heldTrmCellS.calls k _ _ l0_2 t306 t307 _ ?side1 ?side2 A8.out).mono ?_);(case side1=>exact qz10);(case side2=>exact HC0_2.out);rintro e w14 ⟨rfl,hb⟩;refine ⟨_,rfl,?_⟩;have n0_:=Aside0.mk (blk_below (g:=gb305) (o:=.cells #[.int .i64 a0_0,.slice A0_1 l0_1.length c0_1,.slice A0_2 l0_2.length c0_2,.slice A0_3 l0_3.length c0_3] 24 (0,0)) qz74 hb);have n1_:=Aside0.mk (below_step qz29 hb);clear BK305 HB;have BK305:=n0_;have HB:=n1_;clear n0_ n1_;(try clear hb);(try clear hb2);(try clear hk);(try clear hi)))
   go_ret
   exact ⟨qz4,qz29⟩
  ·rw [if_neg c9] at H
   have c9b0:decide (t307<0)=false:=decide_eq_false c9
   clear c9
   replace H:=Option.bind_eq_some_iff.mp H
   obtain ⟨t308,A150,H⟩:=H
   try dsimp only at H
   have A15:=Aside0.mk A150
   clear A150
   by_cases c16:t308<0
   ·rw [if_pos c16] at H
    have c16b0:decide (t308<0)=true:=decide_eq_true c16
    clear c16
    obtain rfl:=Option.some.inj H
    go_enter Tryz.func10,Tryz.ntmps10
    go_wp2_with (first|((with_reducible refine gate_dst (N:=2) rfl ?_);refine box_event ?hg (N:=2) ?hd (cs:=#[.int .i64 a0_0,.slice A0_1 l0_1.length c0_1,.slice A0_2 l0_2.length c0_2,.slice A0_3 l0_3.length c0_3]) (t:=24) ?hr ?_;(case hd=>rfl);(case hg=>rfl);(case hr=>first|(go_simp;done)|(go_simp;rfl));intro gb305 hg w17 hbox hb;have n0_:=Aside0.mk (below_step qz1 hb);have n1_:=Aside0.mk (hbox);have n2_:=Aside0.mk ((by rw [hg];exact (below_size qz1):w.heap.size≤gb305));have n3_:=Aside0.mk ((by rw [hg];exact (below_size qz1):w.heap.size≤gb305));clear HB;have HB:=n0_;have BK305:=n1_;have GW305:=n2_;have GE305:=n3_;clear n0_ n1_ n2_ n3_ hb hbox hg;have hcz18_0:w17.cell? ⟨gb305,0,none⟩=some (.int .i64 a0_0):=(blk_cell BK305.out 0).trans rfl;have hcz18_1:w17.cell? ⟨gb305,1,none⟩=some (.slice A0_1 l0_1.length c0_1):=(blk_cell BK305.out 1).trans rfl;have hcz18_2:w17.cell? ⟨gb305,2,none⟩=some (.slice A0_2 l0_2.length c0_2):=(blk_cell BK305.out 2).trans rfl;have hcz18_3:w17.cell? ⟨gb305,3,none⟩=some (.slice A0_3 l0_3.length c0_3):=(blk_cell BK305.out 3).trans rfl;have hfz18_0:=blk_frozen BK305.out 0;have hfz18_1:=blk_frozen BK305.out 1;have hfz18_2:=blk_frozen BK305.out 2;have hfz18_3:=blk_frozen BK305.out 3)|((with_reducible refine gate_callee (f:=30) rfl ?_);refine goesL_ (some 8) rfl rfl Tryz.func30 (by kernel_rfl) rfl #[.slice A0_1 l0_1.length c0_1,.int .i64 a1] rfl qz2 ?_;(with_reducible refine (laws_heldTrmCellS.calls k _ _ l0_1 a1 t306 _ ?side1 ?side2 A3.out).mono ?_);(case side1=>exact qz6);(case side2=>exact HC0_1.out);rintro e w19 ⟨rfl,hb⟩;refine ⟨_,rfl,?_⟩;have n0_:=Aside0.mk (blk_below (g:=gb305) (o:=.cells #[.int .i64 a0_0,.slice A0_1 l0_1.length c0_1,.slice A0_2 l0_2.length c0_2,.slice A0_3 l0_3.length c0_3] 24 (0,0)) qz74 hb);have n1_:=Aside0.mk (below_step qz29 hb);clear BK305 HB;have BK305:=n0_;have HB:=n1_;clear n0_ n1_;(try clear hb);(try clear hb2);(try clear hk);(try clear hi);have hcz20_0:w19.cell? ⟨gb305,0,none⟩=some (.int .i64 a0_0):=(blk_cell BK305.out 0).trans rfl;have hcz20_1:w19.cell? ⟨gb305,1,none⟩=some (.slice A0_1 l0_1.length c0_1):=(blk_cell BK305.out 1).trans rfl;have hcz20_2:w19.cell? ⟨gb305,2,none⟩=some (.slice A0_2 l0_2.length c0_2):=(blk_cell BK305.out 2).trans rfl;have hcz20_3:w19.cell? ⟨gb305,3,none⟩=some (.slice A0_3 l0_3.length c0_3):=(blk_cell BK305.out 3).trans rfl;have hfz20_0:=blk_frozen BK305.out 0;have hfz20_1:=blk_frozen BK305.out 1;have hfz20_2:=blk_frozen BK305.out 2;have hfz20_3:=blk_frozen BK305.out 3)|((with_reducible refine gate_callee (f:=30) rfl ?_);refine goesL_ (some 14) rfl rfl Tryz.func30 (by kernel_rfl) rfl #[.slice A0_2 l0_2.length c0_2,.int .i64 t306] rfl qz2 ?_;(with_reducible refine (laws_heldTrmCellS.calls k _ _ l0_2 t306 t307 _ ?side1 ?side2 A8.out).mono ?_);(case side1=>exact qz10);(case side2=>exact HC0_2.out);rintro e w21 ⟨rfl,hb⟩;refine ⟨_,rfl,?_⟩;have n0_:=Aside0.mk (blk_below (g:=gb305) (o:=.cells #[.int .i64 a0_0,.slice A0_1 l0_1.length c0_1,.slice A0_2 l0_2.length c0_2,.slice A0_3 l0_3.length c0_3] 24 (0,0)) qz74 hb);have n1_:=Aside0.mk (below_step qz29 hb);clear BK305 HB;have BK305:=n0_;have HB:=n1_;clear n0_ n1_;(try clear hb);(try clear hb2);(try clear hk);(try clear hi);have hcz22_0:w21.cell? ⟨gb305,0,none⟩=some (.int .i64 a0_0):=(blk_cell BK305.out 0).trans rfl;have hcz22_1:w21.cell? ⟨gb305,1,none⟩=some (.slice A0_1 l0_1.length c0_1):=(blk_cell BK305.out 1).trans rfl;have hcz22_2:w21.cell? ⟨gb305,2,none⟩=some (.slice A0_2 l0_2.length c0_2):=(blk_cell BK305.out 2).trans rfl;have hcz22_3:w21.cell? ⟨gb305,3,none⟩=some (.slice A0_3 l0_3.length c0_3):=(blk_cell BK305.out 3).trans rfl;have hfz22_0:=blk_frozen BK305.out 0;have hfz22_1:=blk_frozen BK305.out 1;have hfz22_2:=blk_frozen BK305.out 2;have hfz22_3:=blk_frozen BK305.out 3)|((with_reducible refine gate_callee (f:=30) rfl ?_);refine goesL_ (some 20) rfl rfl Tryz.func30 (by kernel_rfl) rfl #[.slice A0_3 l0_3.length c0_3,.int .i64 t307] rfl qz2 ?_;(with_reducible refine (laws_heldTrmCellS.calls k _ _ l0_3 t307 t308 _ ?side1 ?side2 A15.out).mono ?_);(case side1=>exact qz22);(case side2=>exact HC0_3.out);rintro e w23 ⟨rfl,hb⟩;refine ⟨_,rfl,?_⟩;have n0_:=Aside0.mk (blk_below (g:=gb305) (o:=.cells #[.int .i64 a0_0,.slice A0_1 l0_1.length c0_1,.slice A0_2 l0_2.length c0_2,.slice A0_3 l0_3.length c0_3] 24 (0,0)) qz74 hb);have n1_:=Aside0.mk (below_step qz29 hb);clear BK305 HB;have BK305:=n0_;have HB:=n1_;clear n0_ n1_;(try clear hb);(try clear hb2);(try clear hk);(try clear hi)))
    go_ret
    exact ⟨qz4,qz29⟩
   ·rw [if_neg c16] at H
    have c16b0:decide (t308<0)=false:=decide_eq_false c16
    clear c16
    obtain rfl:=Option.some.inj H
    go_enter Tryz.func10,Tryz.ntmps10
    go_wp2_with (first|((with_reducible refine gate_dst (N:=2) rfl ?_);refine box_event ?hg (N:=2) ?hd (cs:=#[.int .i64 a0_0,.slice A0_1 l0_1.length c0_1,.slice A0_2 l0_2.length c0_2,.slice A0_3 l0_3.length c0_3]) (t:=24) ?hr ?_;(case hd=>rfl);(case hg=>rfl);(case hr=>first|(go_simp;done)|(go_simp;rfl));intro gb305 hg w24 hbox hb;have n0_:=Aside0.mk (below_step qz1 hb);have n1_:=Aside0.mk (hbox);have n2_:=Aside0.mk ((by rw [hg];exact (below_size qz1):w.heap.size≤gb305));have n3_:=Aside0.mk ((by rw [hg];exact (below_size qz1):w.heap.size≤gb305));clear HB;have HB:=n0_;have BK305:=n1_;have GW305:=n2_;have GE305:=n3_;clear n0_ n1_ n2_ n3_ hb hbox hg;have hcz25_0:w24.cell? ⟨gb305,0,none⟩=some (.int .i64 a0_0):=(blk_cell BK305.out 0).trans rfl;have hcz25_1:w24.cell? ⟨gb305,1,none⟩=some (.slice A0_1 l0_1.length c0_1):=(blk_cell BK305.out 1).trans rfl;have hcz25_2:w24.cell? ⟨gb305,2,none⟩=some (.slice A0_2 l0_2.length c0_2):=(blk_cell BK305.out 2).trans rfl;have hcz25_3:w24.cell? ⟨gb305,3,none⟩=some (.slice A0_3 l0_3.length c0_3):=(blk_cell BK305.out 3).trans rfl;have hfz25_0:=blk_frozen BK305.out 0;have hfz25_1:=blk_frozen BK305.out 1;have hfz25_2:=blk_frozen BK305.out 2;have hfz25_3:=blk_frozen BK305.out 3)|((with_reducible refine gate_callee (f:=30) rfl ?_);refine goesL_ (some 8) rfl rfl Tryz.func30 (by kernel_rfl) rfl #[.slice A0_1 l0_1.length c0_1,.int .i64 a1] rfl qz2 ?_;(with_reducible refine (laws_heldTrmCellS.calls k _ _ l0_1 a1 t306 _ ?side1 ?side2 A3.out).mono ?_);(case side1=>exact qz6);(case side2=>exact HC0_1.out);rintro e w26 ⟨rfl,hb⟩;refine ⟨_,rfl,?_⟩;have n0_:=Aside0.mk (blk_below (g:=gb305) (o:=.cells #[.int .i64 a0_0,.slice A0_1 l0_1.length c0_1,.slice A0_2 l0_2.length c0_2,.slice A0_3 l0_3.length c0_3] 24 (0,0)) qz74 hb);have n1_:=Aside0.mk (below_step qz29 hb);clear BK305 HB;have BK305:=n0_;have HB:=n1_;clear n0_ n1_;(try clear hb);(try clear hb2);(try clear hk);(try clear hi);have hcz27_0:w26.cell? ⟨gb305,0,none⟩=some (.int .i64 a0_0):=(blk_cell BK305.out 0).trans rfl;have hcz27_1:w26.cell? ⟨gb305,1,none⟩=some (.slice A0_1 l0_1.length c0_1):=(blk_cell BK305.out 1).trans rfl;have hcz27_2:w26.cell? ⟨gb305,2,none⟩=some (.slice A0_2 l0_2.length c0_2):=(blk_cell BK305.out 2).trans rfl;have hcz27_3:w26.cell? ⟨gb305,3,none⟩=some (.slice A0_3 l0_3.length c0_3):=(blk_cell BK305.out 3).trans rfl;have hfz27_0:=blk_frozen BK305.out 0;have hfz27_1:=blk_frozen BK305.out 1;have hfz27_2:=blk_frozen BK305.out 2;have hfz27_3:=blk_frozen BK305.out 3)|((with_reducible refine gate_callee (f:=30) rfl ?_);refine goesL_ (some 14) rfl rfl Tryz.func30 (by kernel_rfl) rfl #[.slice A0_2 l0_2.length c0_2,.int .i64 t306] rfl qz2 ?_;(with_reducible refine (laws_heldTrmCellS.calls k _ _ l0_2 t306 t307 _ ?side1 ?side2 A8.out).mono ?_);(case side1=>exact qz10);(case side2=>exact HC0_2.out);rintro e w28 ⟨rfl,hb⟩;refine ⟨_,rfl,?_⟩;have n0_:=Aside0.mk (blk_below (g:=gb305) (o:=.cells #[.int .i64 a0_0,.slice A0_1 l0_1.length c0_1,.slice A0_2 l0_2.length c0_2,.slice A0_3 l0_3.length c0_3] 24 (0,0)) qz74 hb);have n1_:=Aside0.mk (below_step qz29 hb);clear BK305 HB;have BK305:=n0_;have HB:=n1_;clear n0_ n1_;(try clear hb);(try clear hb2);(try clear hk);(try clear hi);have hcz29_0:w28.cell? ⟨gb305,0,none⟩=some (.int .i64 a0_0):=(blk_cell BK305.out 0).trans rfl;have hcz29_1:w28.cell? ⟨gb305,1,none⟩=some (.slice A0_1 l0_1.length c0_1):=(blk_cell BK305.out 1).trans rfl;have hcz29_2:w28.cell? ⟨gb305,2,none⟩=some (.slice A0_2 l0_2.length c0_2):=(blk_cell BK305.out 2).trans rfl;have hcz29_3:w28.cell? ⟨gb305,3,none⟩=some (.slice A0_3 l0_3.length c0_3):=(blk_cell BK305.out 3).trans rfl;have hfz29_0:=blk_frozen BK305.out 0;have hfz29_1:=blk_frozen BK305.out 1;have hfz29_2:=blk_frozen BK305.out 2;have hfz29_3:=blk_frozen BK305.out 3)|((with_reducible refine gate_callee (f:=30) rfl ?_);refine goesL_ (some 20) rfl rfl Tryz.func30 (by kernel_rfl) rfl #[.slice A0_3 l0_3.length c0_3,.int .i64 t307] rfl qz2 ?_;(with_reducible refine (laws_heldTrmCellS.calls k _ _ l0_3 t307 t308 _ ?side1 ?side2 A15.out).mono ?_);(case side1=>exact qz22);(case side2=>exact HC0_3.out);rintro e w30 ⟨rfl,hb⟩;refine ⟨_,rfl,?_⟩;have n0_:=Aside0.mk (blk_below (g:=gb305) (o:=.cells #[.int .i64 a0_0,.slice A0_1 l0_1.length c0_1,.slice A0_2 l0_2.length c0_2,.slice A0_3 l0_3.length c0_3] 24 (0,0)) qz74 hb);have n1_:=Aside0.mk (below_step qz29 hb);clear BK305 HB;have BK305:=n0_;have HB:=n1_;clear n0_ n1_;(try clear hb);(try clear hb2);(try clear hk);(try clear hi)))
    go_ret
    exact ⟨qz4,qz29⟩

end Go.Proofs.YtlhniagacegbeaaGreatDoor.P
