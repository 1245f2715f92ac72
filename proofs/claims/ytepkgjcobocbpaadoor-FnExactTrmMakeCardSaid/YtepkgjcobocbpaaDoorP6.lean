/- Contracts of functions of the program: each as a Lean function, and that its call does what that says; printed by cprint.py (this session) over print.py of the kit. Conditions: the hypotheses of each theorem. -/
import Derived.Test.YtepkgjcobocbpaaDoorVZ
import Derived.Test.YtepkgjcobocbpaaDoorP0
import Derived.Test.YtepkgjcobocbpaaDoorP5
namespace Go.Proofs.YtepkgjcobocbpaaDoor.P
open Go.RowKit Go.Proofs.YtepkgjcobocbpaaDoorW.PrintWords Go.Proofs.YtepkgjcobocbpaaDoorW.PrintLast Go.Proofs.YtepkgjcobocbpaaDoorW.PrintMore
attribute [local go_sem] max2_int min2_int max_two min_two max_three min_three max_four min_four   -- for this text's walks alone
set_option linter.unusedVariables false
set_option linter.unusedSimpArgs false

/-! ### laws_markTrmCellS: function 24 -/
def laws_markTrmCellS.l0:Nat→List (S47)→Int→Int→Option (Int × (List (S47)))
 | 0,_,_,_=>none
 | k+1,x0,x1,x5=>if x5<(x0.length:Int) then (if 0≤x5 then ((some (x0.set (x5:Int).toNat (⟨x1,(rd_T47 x0 x5).f1,(rd_T47 x0 x5).f2⟩:S47):List (S47))).bind fun y181=>((some (y181.set (x5:Int).toNat (⟨(rd_T47 y181 x5).f0,wrap64 (x1+1),(rd_T47 y181 x5).f2⟩:S47):List (S47))).bind fun y182=>((laws_markText.f k (wrap64 ((wrap64 (x1+1))+1))).bind fun t183=>(laws_markTrmCellS.l0 k (y182.set (x5:Int).toNat (⟨(rd_T47 y182 x5).f0,(rd_T47 y182 x5).f1,t183⟩:S47)) (wrap64 ((wrap64 ((wrap64 (x1+1))+1))+1)) (wrap64 (x5+1)))))) else (none)) else (some (x1,x0))
def laws_markTrmCellS.f (k:Nat) (l0:List (S47)) (a1:Int):Option (Int × (List (S47))):=laws_markTrmCellS.l0 k l0 a1 0
set_option maxHeartbeats 8000000 in
set_option maxRecDepth 100000 in
theorem laws_markTrmCellS.calls (k:Nat) (P0_:Nat→Prop) (u9000_:Value) (l0:List (S47)) (a1:Int) (r1:Int) (r2:List (S47)) (w0 w:World) (hB:Below w0.heap.size w0 w) (ho0:Kd.R k47 47 w w0.heap.size P0_ u9000_ l0) (h:laws_markTrmCellS.f k l0 a1=some (r1,r2)) :
  Calls Tryd.prog 24 #[u9000_,.int .i64 a1] w fun e w'=>e = .returned (.int .i64 r1)∧Kd.R k47 47 w' w0.heap.size (fun k_=>(P0_ k_∨w.heap.size≤k_)) u9000_ r2∧Below w0.heap.size w0 w'∧Kept w w' (fun k_=>P0_ k_):=by
 have HO0:=Aside0.mk (show Kd.R k47 47 w w0.heap.size (fun k_=>(P0_ k_∨w.heap.size≤k_)) u9000_ l0 from Kd.R_mono ho0 (fun k_ hk=>(.inl hk)))
 have HK:=Aside0.mk (Kept.refl w (fun k_=>P0_ k_))
 have HW0:=Aside0.mk hB.size
 have HB:=Aside0.mk hB
 clear hB
 have H:(laws_markTrmCellS.l0 k l0 a1 0)=some (r1,r2):=h
 clear h
 have H':=Aside0.mk H
 clear H
 go_enter Tryd.func24,Tryd.ntmps24
 go_wp2
 go_loopg [1,5] k (fun kq v1 v5 w'=>∃ (x0_1:List (S47)) (x1_1:Int) (x5_1:Int),v1 = .int .i64 x1_1∧v5 = .int .i64 x5_1∧Aside0 (laws_markTrmCellS.l0 kq x0_1 x1_1 x5_1=some (r1,r2))∧Aside0 (kq≤k)∧Aside0 (Kd.R k47 47 w' w0.heap.size (fun k_=>(P0_ k_∨w.heap.size≤k_)) u9000_ x0_1)∧Aside0 (Kept w w' (fun k_=>P0_ k_))∧Aside0 (Below w0.heap.size w0 w'))
 case atStart=>exact ⟨(l0),(a1),(0),qz5,qz5,H',⟨Nat.le_refl _⟩,⟨by (with_reducible repeat (first|apply Kd.R_alloc|apply Kd.R_drewN|apply Kd.R_drew));exact HO0.out⟩,⟨qz13⟩,⟨qz2⟩⟩
 case round=>
  clear H'
  try clear c2
  try clear p2
  obtain ⟨x0_1,x1_1,x5_1,rfl,rfl,HA,HK1,HO_0,HK,HB⟩:=hrel
  cases gk with
  | zero=>exact absurd HA.out (by simp [laws_markTrmCellS.l0])
  | succ k1=>
   have H:=HA.out
   clear HA
   simp only [laws_markTrmCellS.l0] at H
   by_cases c3:x5_1<(x0_1.length:Int)
   ·rw [if_pos c3] at H
    have c3b0:decide (x5_1<(x0_1.length:Int))=true:=decide_eq_true c3
    clear c3
    by_cases c4:0≤x5_1
    ·rw [if_pos c4] at H
     have c4b0:decide (0≤x5_1)=true:=decide_eq_true c4
     clear c4
     obtain ⟨y181,hy181⟩:∃ y_:List (S47),y_=(x0_1.set (x5_1:Int).toNat (⟨x1_1,(rd_T47 x0_1 x5_1).f1,(rd_T47 x0_1 x5_1).f2⟩:S47)):=⟨_,rfl⟩
     replace H:((some (y181.set (x5_1:Int).toNat (⟨(rd_T47 y181 x5_1).f0,wrap64 (x1_1+1),(rd_T47 y181 x5_1).f2⟩:S47):List (S47))).bind fun y182=>((laws_markText.f k1 (wrap64 ((wrap64 (x1_1+1))+1))).bind fun t183=>(laws_markTrmCellS.l0 k1 (y182.set (x5_1:Int).toNat (⟨(rd_T47 y182 x5_1).f0,(rd_T47 y182 x5_1).f1,t183⟩:S47)) (wrap64 ((wrap64 ((wrap64 (x1_1+1))+1))+1)) (wrap64 (x5_1+1)))))=some (r1,r2):=by first|(rw [hy181];exact H)|exact H
     have Ny181:=Aside0.mk hy181
     clear hy181
     obtain ⟨y182,hy182⟩:∃ y_:List (S47),y_=(y181.set (x5_1:Int).toNat (⟨(rd_T47 y181 x5_1).f0,wrap64 (x1_1+1),(rd_T47 y181 x5_1).f2⟩:S47)):=⟨_,rfl⟩
     replace H:((laws_markText.f k1 (wrap64 ((wrap64 (x1_1+1))+1))).bind fun t183=>(laws_markTrmCellS.l0 k1 (y182.set (x5_1:Int).toNat (⟨(rd_T47 y182 x5_1).f0,(rd_T47 y182 x5_1).f1,t183⟩:S47)) (wrap64 ((wrap64 ((wrap64 (x1_1+1))+1))+1)) (wrap64 (x5_1+1))))=some (r1,r2):=by first|(rw [hy182];exact H)|exact H
     have Ny182:=Aside0.mk hy182
     clear hy182
     replace H:=Option.bind_eq_some_iff.mp H
     obtain ⟨t183,A70,H⟩:=H
     try dsimp only at H
     have A7:=Aside0.mk A70
     clear A70
     obtain ⟨y184,hy184⟩:∃ y_:List (S47),y_=(y182.set (x5_1:Int).toNat (⟨(rd_T47 y182 x5_1).f0,(rd_T47 y182 x5_1).f1,t183⟩:S47)):=⟨_,rfl⟩
     replace H:(laws_markTrmCellS.l0 k1 y184 (wrap64 ((wrap64 ((wrap64 (x1_1+1))+1))+1)) (wrap64 (x5_1+1)))=some (r1,r2):=by first|(rw [hy184];exact H)|exact H
     have Ny184:=Aside0.mk hy184
     clear hy184
     have H':=Aside0.mk H
     clear H
     obtain ⟨Ao9,co9,eo9⟩:=Kd.R_slice HO_0.out
     subst eo9
     have p5:0≤(x5_1:Int):=of_decide_eq_true qz4
     have q5:(x5_1:Int)<((x0_1.length:Int):Int):=of_decide_eq_true qz4
     obtain ⟨go5,co5,eo5,gb5,gl5,cl5,HG5⟩:=Kd.R_form HO_0.out (by omega)
     (first|cases eo5|(injection eo5 with ea_ en_ ec_;(first|subst ea_|(injection ea_ with ea_;subst ea_));subst ec_;clear en_))
     have GB5:=Aside0.mk gb5
     have GG5:=Aside0.mk HG5
     clear gb5 gl5 HG5
     have HMgo5:=Aside0.mk (show (P0_ go5∨w.heap.size≤go5) from (HO_0.out.1 _ rfl))
     obtain ⟨ce5,hcl5,hM5,hcc5,hfr5⟩:=Kd.R_elem HO_0.out z47 (x5_1:Int) p5 q5
     obtain rfl:=k47_openM hM5
     have hx5_0:wr.cell? ⟨go5,(x5_1:Int).toNat * 3,none⟩=some (.int .i64 ((rd_T47 x0_1 x5_1).f0)):=hcc5 0 _ rfl
     have hx5_1:wr.cell? ⟨go5,(x5_1:Int).toNat * 3+1,none⟩=some (.int .i64 ((rd_T47 x0_1 x5_1).f1)):=hcc5 1 _ rfl
     have hx5_2:wr.cell? ⟨go5,(x5_1:Int).toNat * 3+2,none⟩=some (.string ((rd_T47 x0_1 x5_1).f2)):=hcc5 2 _ rfl
     have hf5_0:wr.frozen? ⟨go5,(x5_1:Int).toNat * 3,none⟩=false:=hfr5 0
     have hf5_1:wr.frozen? ⟨go5,(x5_1:Int).toNat * 3+1,none⟩=false:=hfr5 1
     have hf5_2:wr.frozen? ⟨go5,(x5_1:Int).toNat * 3+2,none⟩=false:=hfr5 2
     (try clear hcl5);(try clear hcc5);(try clear hfr5);(try clear hM5)
     replace p5:=eq_true p5
     replace q5:=eq_true q5
     have HX10:=Aside0.mk (show Kd.R k47 47 wr w0.heap.size (fun k_=>(P0_ k_∨w.heap.size≤k_)) (.slice (some ⟨go5,0,none⟩) x0_1.length co9) x0_1 from qz18)
     obtain ⟨ce10,hcl10,hM10,hcc10,hfr10⟩:=Kd.R_elem HX10.out z47 (x5_1:Int) (of_decide_eq_true qz4) (by have h_:(x5_1:Int)<((x0_1.length:Int):Int):=of_decide_eq_true qz4;first|exact h_|(have e_:=(Kd.R_reads' HO_0.out).1;omega)|simpa using h_)
     obtain rfl:=k47_openM hM10
     have HP10:=Kd.R_seg HX10.out (x5_1:Int) (of_decide_eq_true qz4) (by have h_:(x5_1:Int)<((x0_1.length:Int):Int):=of_decide_eq_true qz4;first|exact h_|(have e_:=(Kd.R_reads' HO_0.out).1;omega)|simpa using h_) (seg:=[.int .i64 x1_1]) (j:=0) hcl10 hcc10 (show 1≤3 from by decide) (x':=(⟨x1_1,(rd_T47 x0_1 x5_1).f1,(rd_T47 x0_1 x5_1).f2⟩:S47)) (k47_mkM _ _ _ (⟨x1_1,(rd_T47 x0_1 x5_1).f1,(rd_T47 x0_1 x5_1).f2⟩:S47) ) (fun _ hk=>hk)
     have hx10_0:=hcc10 0 _ rfl
     (try simp only [show (k47).sz=3 from rfl,Nat.mul_one,Nat.add_zero] at hx10_0)
     have hf10_0:=hfr10 0
     (try simp only [show (k47).sz=3 from rfl,Nat.mul_one,Nat.add_zero] at hf10_0)
     (try clear hcl10);(try clear hcc10);(try clear hfr10);(try clear hM10)
     go_wp2_with (first|((with_reducible refine gate_store (t:=3) (p:=16) rfl ?_);refine store_event (t:=3) (p:=16) (v:=?vo_w11) (w1:=(wr.setCell ⟨go5,(x5_1:Int).toNat * 3,none⟩ (.int .i64 x1_1))) ?hg ?ho ?hn ?hr ?_;(case ho=>rfl);(case hg=>rfl);(case hn=>rfl);(case hr=>first|(go_simp;done)|(go_simp;rfl));intro w11 hw;have hg:wr.grownBy w11 (some go5):=(by rw [hw];exact HP10.2);have hp_:Kd.R k47 47 w11 w0.heap.size (fun k_=>(P0_ k_∨w.heap.size≤k_)) (.slice (some ⟨go5,0,none⟩) x0_1.length co9) y181:=(by rw [hw,Ny181.out];exact HP10.1);clear HP10;have n0_:=Aside0.mk (hp_);have n1_:=Aside0.mk ((by rw [hw];exact below_set (HB.out) GB5.out:Below w0.heap.size w0 w11));have n2_:=Aside0.mk (Kept.of_grown (S:=(fun k_=>P0_ k_)) hg qz13 (fun k_ e_=>(HO_0.out.1 k_ e_)));clear HO_0 HB HK;have HO_0:=n0_;have HB:=n1_;have HK:=n2_;clear n0_ n1_ n2_ hg hw hp_;have p6:0≤(x5_1:Int):=of_decide_eq_true qz4;have q6:(x5_1:Int)<((x0_1.length:Int):Int):=of_decide_eq_true qz4;obtain ⟨ce6,hcl6,hM6,hcc6,hfr6⟩:=Kd.R_elem HO_0.out z47 (x5_1:Int) p6 q6;obtain rfl:=k47_openM hM6;have hx6_0:w11.cell? ⟨go5,(x5_1:Int).toNat * 3,none⟩=some (.int .i64 ((rd_T47 y181 x5_1).f0)):=hcc6 0 _ rfl;have hx6_1:w11.cell? ⟨go5,(x5_1:Int).toNat * 3+1,none⟩=some (.int .i64 ((rd_T47 y181 x5_1).f1)):=hcc6 1 _ rfl;have hx6_2:w11.cell? ⟨go5,(x5_1:Int).toNat * 3+2,none⟩=some (.string ((rd_T47 y181 x5_1).f2)):=hcc6 2 _ rfl;have hf6_0:w11.frozen? ⟨go5,(x5_1:Int).toNat * 3,none⟩=false:=hfr6 0;have hf6_1:w11.frozen? ⟨go5,(x5_1:Int).toNat * 3+1,none⟩=false:=hfr6 1;have hf6_2:w11.frozen? ⟨go5,(x5_1:Int).toNat * 3+2,none⟩=false:=hfr6 2;(try clear hcl6);(try clear hcc6);(try clear hfr6);(try clear hM6);replace p6:=eq_true p6;replace q6:=eq_true q6;have HX12:=Aside0.mk (show Kd.R k47 47 w11 w0.heap.size (fun k_=>(P0_ k_∨w.heap.size≤k_)) (.slice (some ⟨go5,0,none⟩) x0_1.length co9) y181 from qz18);obtain ⟨ce12,hcl12,hM12,hcc12,hfr12⟩:=Kd.R_elem HX12.out z47 (x5_1:Int) (of_decide_eq_true qz4) (by have h_:(x5_1:Int)<((x0_1.length:Int):Int):=of_decide_eq_true qz4;first|exact h_|(have e_:=(Kd.R_reads' HO_0.out).1;omega)|simpa using h_);obtain rfl:=k47_openM hM12;have HP12:=Kd.R_seg HX12.out (x5_1:Int) (of_decide_eq_true qz4) (by have h_:(x5_1:Int)<((x0_1.length:Int):Int):=of_decide_eq_true qz4;first|exact h_|(have e_:=(Kd.R_reads' HO_0.out).1;omega)|simpa using h_) (seg:=[.int .i64 (wrap64 (x1_1+1))]) (j:=1) hcl12 hcc12 (show 2≤3 from by decide) (x':=(⟨(rd_T47 y181 x5_1).f0,wrap64 (x1_1+1),(rd_T47 y181 x5_1).f2⟩:S47)) (k47_mkM _ _ _ (⟨(rd_T47 y181 x5_1).f0,wrap64 (x1_1+1),(rd_T47 y181 x5_1).f2⟩:S47) ) (fun _ hk=>hk);have hx12_1:=hcc12 1 _ rfl;(try simp only [show (k47).sz=3 from rfl,Nat.mul_one,Nat.add_zero] at hx12_1);have hf12_1:=hfr12 1;(try simp only [show (k47).sz=3 from rfl,Nat.mul_one,Nat.add_zero] at hf12_1);clear hcl12 hcc12 hfr12 hM12)|((with_reducible refine gate_store (t:=3) (p:=23) rfl ?_);refine store_event (t:=3) (p:=23) (v:=?vo_w13) (w1:=(w11.setCell ⟨go5,(x5_1:Int).toNat * 3+1,none⟩ (.int .i64 (wrap64 (x1_1+1))))) ?hg ?ho ?hn ?hr ?_;(case ho=>rfl);(case hg=>rfl);(case hn=>rfl);(case hr=>first|(go_simp;done)|(go_simp;rfl));intro w13 hw;have hg:w11.grownBy w13 (some go5):=(by rw [hw];exact HP12.2);have hp_:Kd.R k47 47 w13 w0.heap.size (fun k_=>(P0_ k_∨w.heap.size≤k_)) (.slice (some ⟨go5,0,none⟩) x0_1.length co9) y182:=(by rw [hw,Ny182.out];exact HP12.1);clear HP12;have n0_:=Aside0.mk (hp_);have n1_:=Aside0.mk ((by rw [hw];exact below_set (HB.out) GB5.out:Below w0.heap.size w0 w13));have n2_:=Aside0.mk (Kept.of_grown (S:=(fun k_=>P0_ k_)) hg qz13 (fun k_ e_=>(HO_0.out.1 k_ e_)));clear HO_0 HB HK;have HO_0:=n0_;have HB:=n1_;have HK:=n2_;clear n0_ n1_ n2_ hg hw hp_)|(go_at_call 48;(with_reducible refine (laws_markText.calls k1 (wrap64 ((wrap64 (x1_1+1))+1)) t183 _ A7.out).mono ?_);rintro e w14 ⟨rfl,hb⟩;have n0_:=Aside0.mk (Kd.R_below qz18 hb);have n1_:=Aside0.mk (Kept.below (S:=(fun k_=>P0_ k_)) qz13 hb);have n2_:=Aside0.mk (below_step qz1 hb);clear HO_0 HK HB;have HO_0:=n0_;have HK:=n1_;have HB:=n2_;clear n0_ n1_ n2_;(try clear hb);(try clear hb2);(try clear hk);(try clear hi);have p8:0≤(x5_1:Int):=of_decide_eq_true qz4;have q8:(x5_1:Int)<((x0_1.length:Int):Int):=of_decide_eq_true qz4;obtain ⟨ce8,hcl8,hM8,hcc8,hfr8⟩:=Kd.R_elem HO_0.out z47 (x5_1:Int) p8 q8;obtain rfl:=k47_openM hM8;have hx8_0:w14.cell? ⟨go5,(x5_1:Int).toNat * 3,none⟩=some (.int .i64 ((rd_T47 y182 x5_1).f0)):=hcc8 0 _ rfl;have hx8_1:w14.cell? ⟨go5,(x5_1:Int).toNat * 3+1,none⟩=some (.int .i64 ((rd_T47 y182 x5_1).f1)):=hcc8 1 _ rfl;have hx8_2:w14.cell? ⟨go5,(x5_1:Int).toNat * 3+2,none⟩=some (.string ((rd_T47 y182 x5_1).f2)):=hcc8 2 _ rfl;have hf8_0:w14.frozen? ⟨go5,(x5_1:Int).toNat * 3,none⟩=false:=hfr8 0;have hf8_1:w14.frozen? ⟨go5,(x5_1:Int).toNat * 3+1,none⟩=false:=hfr8 1;have hf8_2:w14.frozen? ⟨go5,(x5_1:Int).toNat * 3+2,none⟩=false:=hfr8 2;(try clear hcl8);(try clear hcc8);(try clear hfr8);(try clear hM8);replace p8:=eq_true p8;replace q8:=eq_true q8;have HX15:=Aside0.mk (show Kd.R k47 47 w14 w0.heap.size (fun k_=>(P0_ k_∨w.heap.size≤k_)) (.slice (some ⟨go5,0,none⟩) x0_1.length co9) y182 from qz18);obtain ⟨ce15,hcl15,hM15,hcc15,hfr15⟩:=Kd.R_elem HX15.out z47 (x5_1:Int) (of_decide_eq_true qz4) (by have h_:(x5_1:Int)<((x0_1.length:Int):Int):=of_decide_eq_true qz4;first|exact h_|(have e_:=(Kd.R_reads' HO_0.out).1;omega)|simpa using h_);obtain rfl:=k47_openM hM15;have HP15:=Kd.R_seg HX15.out (x5_1:Int) (of_decide_eq_true qz4) (by have h_:(x5_1:Int)<((x0_1.length:Int):Int):=of_decide_eq_true qz4;first|exact h_|(have e_:=(Kd.R_reads' HO_0.out).1;omega)|simpa using h_) (seg:=[.string t183]) (j:=2) hcl15 hcc15 (show 3≤3 from by decide) (x':=(⟨(rd_T47 y182 x5_1).f0,(rd_T47 y182 x5_1).f1,t183⟩:S47)) (k47_mkM _ _ _ (⟨(rd_T47 y182 x5_1).f0,(rd_T47 y182 x5_1).f1,t183⟩:S47) ) (fun _ hk=>hk);have hx15_2:=hcc15 2 _ rfl;(try simp only [show (k47).sz=3 from rfl,Nat.mul_one,Nat.add_zero] at hx15_2);have hf15_2:=hfr15 2;(try simp only [show (k47).sz=3 from rfl,Nat.mul_one,Nat.add_zero] at hf15_2);clear hcl15 hcc15 hfr15 hM15)|((with_reducible refine gate_store (t:=9) (p:=31) rfl ?_);refine store_event (t:=9) (p:=31) (v:=?vo_w16) (w1:=(w14.setCell ⟨go5,(x5_1:Int).toNat * 3+2,none⟩ (.string t183))) ?hg ?ho ?hn ?hr ?_;(case ho=>rfl);(case hg=>rfl);(case hn=>rfl);(case hr=>first|(go_simp;done)|(go_simp;rfl));intro w16 hw;have hg:w14.grownBy w16 (some go5):=(by rw [hw];exact HP15.2);have hp_:Kd.R k47 47 w16 w0.heap.size (fun k_=>(P0_ k_∨w.heap.size≤k_)) (.slice (some ⟨go5,0,none⟩) x0_1.length co9) y184:=(by rw [hw,Ny184.out];exact HP15.1);clear HP15;have n0_:=Aside0.mk (hp_);have n1_:=Aside0.mk ((by rw [hw];exact below_set (HB.out) GB5.out:Below w0.heap.size w0 w16));have n2_:=Aside0.mk (Kept.of_grown (S:=(fun k_=>P0_ k_)) hg qz13 (fun k_ e_=>(HO_0.out.1 k_ e_)));clear HO_0 HB HK;have HO_0:=n0_;have HB:=n1_;have HK:=n2_;clear n0_ n1_ n2_ hg hw hp_))
     go_roundg k1
     case measure=>have:=HK1.out;omega
     case rel=>exact ⟨(y184),(wrap64 ((wrap64 ((wrap64 (x1_1+1))+1))+1)),(wrap64 (x5_1+1)),qz5,qz5,H',⟨by have:=HK1.out;omega⟩,⟨qz18⟩,⟨qz13⟩,⟨qz2⟩⟩
    ·rw [if_neg c4] at H
     exact absurd H (by simp)
   ·rw [if_neg c3] at H
    have c3b0:decide (x5_1<(x0_1.length:Int))=false:=decide_eq_false c3
    clear c3
    simp only [Option.some.injEq,Prod.mk.injEq] at H
    obtain ⟨rfl,rfl⟩:=H
    obtain ⟨Ao17,co17,eo17⟩:=Kd.R_slice HO_0.out
    subst eo17
    go_wp2
    go_ret
    exact ⟨qz3,qz18,qz2,qz13⟩

/-! ### laws_markTrmCellSS: function 23 -/
/-- marks: the places of each row, one behind the other -/
def laws_markTrmCellSS.l0:Nat→List (List (S47))→Int→Int→Option (Int × (List (List (S47))))
 | 0,_,_,_=>none
 | k+1,x,m,i=>if i<(x.length:Int) then (if 0≤i then (laws_markTrmCellS.f k (x.getD i.toNat []) m).bind fun t=>laws_markTrmCellSS.l0 k (x.set i.toNat t.2) t.1 (wrap64 (i+1)) else none) else some (m,x)
def laws_markTrmCellSS.f (k:Nat) (l0:List (List (S47))) (a1:Int):Option (Int × (List (List (S47)))):=laws_markTrmCellSS.l0 k l0 a1 0
/-- row i of rows that are the call's own, lent -/
theorem row_lend {W:World} {base g n cap:Nat} {P:Nat→Prop} {x:List (List Cat.Cell)} {i:Int} (hS:Kd.S (Kd.slice 47 k47) 35 W base P (.slice (some ⟨g,0,none⟩) n cap) x) (h0:0≤i) (h1:i<n) (hP:∀ k,W.heap.size≤k→P k) :
  ∃ (oki:Nat→Prop) (A:Option Addr) (c:Nat),(∀ k,oki k→P k∧k≠g)∧W.cell? ⟨g,i.toNat,none⟩=some (.slice A (x.getD i.toNat []).length c)∧Kd.R k47 47 W base oki (.slice A (x.getD i.toNat []).length c) (x.getD i.toNat [])∧
   (∀ (W':World) (t:List Cat.Cell),Kept W W' oki→Kd.R k47 47 W' base (fun k=>oki k∨W.heap.size≤k) (.slice A (x.getD i.toNat []).length c) t→Kd.S (Kd.slice 47 k47) 35 W' base P (.slice (some ⟨g,0,none⟩) n cap) (x.set i.toNat t)):=by
 obtain ⟨oki,c,hcl,hM,hcc,hfr,hoki,hH⟩:=Kd.S_elem hS [] i h0 h1
 obtain ⟨v1,rfl,hR⟩:=hM
 obtain ⟨A,cc,ev⟩:=Kd.R_slice hR
 subst ev
 refine ⟨oki,A,cc,hoki,?_,hR,fun W' t hk hR'=>?_⟩
 ·have:=hcc 0 _ rfl
  rwa [show (Kd.slice 47 k47).sz=1 from rfl,Nat.mul_one] at this
 ·have h2:=Kd.H_kept (Kd.H_widen hH) (hk.mono (S':=fun k=>oki k∨P k∧W.heap.size≤k) (fun k hk=>.inl hk)) (fun k _ hn hs=>hn hs)
  exact Kd.H_back h2 (show (Kd.slice 47 k47).M _ _ _ t [_] from ⟨_,rfl,hR'⟩) (fun k hk=>hk.elim .inl (fun h=>.inr ⟨hP k h,h⟩))
set_option maxHeartbeats 8000000 in
set_option maxRecDepth 100000 in
theorem laws_markTrmCellSS.calls (k:Nat) (P0_:Nat→Prop) (v:Value) (l0:List (List (S47))) (a1:Int) (r1:Int) (r2:List (List (S47))) (w0 w:World) (hB:Below w0.heap.size w0 w) (ho0:Kd.S (Kd.slice 47 k47) 35 w w0.heap.size P0_ v l0) (h:laws_markTrmCellSS.f k l0 a1=some (r1,r2)) :
  Calls Tryd.prog 23 #[v,.int .i64 a1] w fun e w'=>e = .returned (.int .i64 r1)∧Kd.S (Kd.slice 47 k47) 35 w' w0.heap.size (fun k_=>(P0_ k_∨w.heap.size≤k_)) v r2∧Below w0.heap.size w0 w'∧Kept w w' (fun k_=>P0_ k_):=by
 have HS:=Aside0.mk (show Kd.S (Kd.slice 47 k47) 35 w w0.heap.size (fun k_=>(P0_ k_∨w.heap.size≤k_)) v l0 from Kd.S_mono ho0 (fun k_ hk=>.inl hk))
 have HB:=Aside0.mk hB
 have HK:=Aside0.mk (Kept.refl w (fun k_=>P0_ k_))
 have HF:=Aside0.mk (show laws_markTrmCellSS.l0 k l0 a1 0=some (r1,r2) from h)
 obtain ⟨Av,cv,ev⟩:=Kd.S_slice ho0
 subst ev
 clear ho0 hB h
 go_enter Tryd.func23,Tryd.ntmps23
 go_wp2
 go_loopg [1,5] k (fun gg v1 v5 wr=>∃ (x:List (List Cat.Cell)) (m i:Int),v1 = .int .i64 m∧v5 = .int .i64 i∧Aside0 (Kd.S (Kd.slice 47 k47) 35 wr w0.heap.size (fun k_=>(P0_ k_∨w.heap.size≤k_)) (.slice Av l0.length cv) x)∧Aside0 (Below w0.heap.size w0 wr)∧Aside0 (Kept w wr (fun k_=>P0_ k_))∧Aside0 (laws_markTrmCellSS.l0 gg x m i=some (r1,r2)))
 case atStart=>exact ⟨l0,a1,0,rfl,rfl,HS,HB,HK,HF⟩
 case round=>
  clear HS HB HK HF
  obtain ⟨x,m,i,rfl,rfl,HS,HB,HK,HF⟩:=hrel
  have hxl:=(Kd.S_reads' HS.out).1
  have HXL:=Aside0.mk hxl
  cases gk with
  | zero=>exact absurd HF.out (by simp [laws_markTrmCellSS.l0])
  | succ gk=>
   have h:=HF.out
   rw [laws_markTrmCellSS.l0,← hxl] at h
   clear hxl
   by_cases hi:i<(l0.length:Int)
   ·rw [if_pos hi] at h
    by_cases h0:0≤i
    case neg=>rw [if_neg h0] at h;cases h
    rw [if_pos h0] at h
    obtain ⟨⟨m2,t⟩,h1,h2⟩:=Option.bind_eq_some_iff.1 h
    have H1:=Aside0.mk h1
    have H2:=Aside0.mk h2
    clear h h1 h2 HF
    obtain ⟨g,cap,ev,hgb,hgl,_⟩:=Kd.S_form HS.out (by have:=HXL.out;omega)
    injection ev with ea en ec
    subst ea ec
    clear en
    obtain ⟨oki,A,c,hoki,hx0,hR,hback⟩:=row_lend HS.out h0 hi (fun k hk=>.inr (Nat.le_trans HK.out.1 hk))
    generalize hy:x.getD i.toNat []=y at hx0 hR hback H1
    have HO:=Aside0.mk hoki
    have HR:=Aside0.mk hR
    have HBK:=Aside0.mk hback
    clear hoki hR hback hy hgb hgl HS
    go_wp2_with (go_at_call 24;(with_reducible refine (laws_markTrmCellS.calls gk oki _ y m m2 t w0 wr HB.out HR.out H1.out).mono ?_);rintro e w2 ⟨rfl,hr2,hb2,hk2⟩;have HS2:=Aside0.mk (HBK.out w2 t hk2 hr2);have HB2:=Aside0.mk hb2;have HK2:=Aside0.mk (HK.out.then_ hk2 (fun k hk=>(HO.out k hk).1));clear hr2 hb2 hk2)
    go_roundg gk
    case measure=>omega
    case rel=>exact ⟨x.set i.toNat t,m2,wrap64 (i+1),rfl,by go_num,HS2,HB2,HK2,H2⟩
   ·rw [if_neg hi] at h
    injection h with h
    injection h with h1 h2
    subst h1 h2
    clear HF
    go_wp2
    go_ret
    exact ⟨rfl,HS.out,HB.out,HK.out⟩
/-! what is told of some blocks alone -/
def Loc (X:World→Prop) (W:World) (lo hi:Nat):Prop:=hi≤W.heap.size∧∀ W':World,(∀ k,lo≤k→k<hi→W'.heap[k]?=W.heap[k]?)→X W'
theorem Loc.now {X:World→Prop} {W:World} {lo hi:Nat} (h:Loc X W lo hi):X W:=h.2 W (fun _ _ _=>rfl)
theorem Loc.kept {X:World→Prop} {W W':World} {lo hi:Nat} {S:Nat→Prop} (h:Loc X W lo hi) (hk:Kept W W' S) (hS:∀ k,lo≤k→k<hi→¬ S k):Loc X W' lo hi:=
 ⟨Nat.le_trans h.1 hk.1,fun V hV=>h.2 V (fun k h1 h2=>(hV k h1 h2).trans (hk.2 k (Nat.lt_of_lt_of_le h2 h.1) (hS k h1 h2)))⟩
theorem Loc.below {X:World→Prop} {W W':World} {lo hi:Nat} (h:Loc X W lo hi) (hb:Below W.heap.size W W'):Loc X W' lo hi:=h.kept (Kept.of_below hb (fun _=>False)) (fun _ _ _ h=>h)
theorem Loc.ofR {α:Type} {d:Kd α} {e base b0:Nat} {W':World} {v:Value} {xs:List α} (ho:d.R e W' b0 (fun _=>True) v xs) (hb:base≤b0):Loc (fun V=>d.R e V base (fun k=>b0≤k∧k<W'.heap.size) v xs) W' b0 W'.heap.size:=
 ⟨Nat.le_refl _,fun V hV=>Kd.R_move (Kd.R_lower (Kd.R_mono (Kd.R_bound ho) (fun k hk=>⟨hk.2.1,hk.2.2.1⟩)) hb) (fun k hk=>hV k hk.1 hk.2)⟩
theorem Loc.ofS {α:Type} {d:Kd α} {e base b0:Nat} {W':World} {v:Value} {xs:List α} (ho:Kd.S d e W' b0 (fun _=>True) v xs) (hb:base≤b0):Loc (fun V=>Kd.S d e V base (fun k=>b0≤k∧k<W'.heap.size) v xs) W' b0 W'.heap.size:=
 ⟨Nat.le_refl _,fun V hV=>Kd.S_move (Kd.S_lower (Kd.S_mono (Kd.S_bound ho) (fun k hk=>⟨hk.2.1,hk.2.2.1⟩)) hb) (fun k hk=>hV k hk.1 hk.2)⟩
def AllL (L:List ((World→Prop) × Nat × Nat)) (W:World):Prop:=∀ p ∈ L,Loc p.1 W p.2.1 p.2.2
theorem AllL.nil (W:World):AllL [] W:=fun _ h=>by cases h
theorem AllL.cons {L:List ((World→Prop) × Nat × Nat)} {X:World→Prop} {W:World} {lo hi:Nat} (h:Loc X W lo hi) (t:AllL L W):AllL ((X,lo,hi) :: L) W:=fun p hp=>by
 rcases List.mem_cons.1 hp with rfl|hp
 ·exact h
 ·exact t p hp
theorem AllL.below {L:List ((World→Prop) × Nat × Nat)} {W W':World} (h:AllL L W) (hb:Below W.heap.size W W'):AllL L W':=fun p hp=>(h p hp).below hb
theorem AllL.kept {L:List ((World→Prop) × Nat × Nat)} {W W':World} {S:Nat→Prop} (h:AllL L W) (hk:Kept W W' S) (hS:∀ p ∈ L,∀ k,p.2.1≤k→k<p.2.2→¬ S k):AllL L W':=fun p hp=>(h p hp).kept hk (hS p hp)
theorem AllL.tail {L:List ((World→Prop) × Nat × Nat)} {p:(World→Prop) × Nat × Nat} {W:World} (h:AllL (p :: L) W):AllL L W:=fun q hq=>h q (.tail _ hq)
theorem AllL.i0 {L:List ((World→Prop) × Nat × Nat)} {X:World→Prop} {W:World} {lo hi:Nat} (h:AllL ((X,lo,hi) :: L) W):X W:=(h _ (.head _)).now
theorem AllL.i1 {L:List ((World→Prop) × Nat × Nat)} {p:(World→Prop) × Nat × Nat} {X:World→Prop} {W:World} {lo hi:Nat} (h:AllL (p :: (X,lo,hi) :: L) W):X W:=h.tail.i0
theorem AllL.i2 {L:List ((World→Prop) × Nat × Nat)} {p q:(World→Prop) × Nat × Nat} {X:World→Prop} {W:World} {lo hi:Nat} (h:AllL (p :: q :: (X,lo,hi) :: L) W):X W:=h.tail.tail.i0
/-! ### laws_heldTrmCellS: function 25 -/
def laws_heldTrmCellS.l0:Nat→List (S47)→Int→Int→Option (Int)
 | 0,_,_,_=>none
 | k+1,x0,x1,x5=>if x5<(x0.length:Int) then (if 0≤x5 then (if ((rd_T47 x0 x5).f0)=x1 then (if ((rd_T47 x0 x5).f1)=(wrap64 (x1+1)) then ((laws_markText.f k (wrap64 ((wrap64 (x1+1))+1))).bind fun t188=>(if ((rd_T47 x0 x5).f2).toList=t188.toList then (laws_heldTrmCellS.l0 k x0 (wrap64 ((wrap64 ((wrap64 (x1+1))+1))+1)) (wrap64 (x5+1))) else (some (-1)))) else (some (-1))) else (some (-1))) else (none)) else (some x1)
def laws_heldTrmCellS.f (k:Nat) (l0:List (S47)) (a1:Int):Option (Int):=laws_heldTrmCellS.l0 k l0 a1 0
def laws_heldTrmCellS.T10:Bool × List (List Nat × List Nat):=(true,[([],[]),([],[]),([0,1],[0,1]),([2],[2]),([3],[3]),([],[]),([5],[5]),([4,6],[4,6])])
def laws_heldTrmCellS.B10:List Nat:=[0,0,3,7,15,0,32,127]
theorem laws_heldTrmCellS.tab10:rtab .any (opsOf Tryd.f25 10)=laws_heldTrmCellS.T10:=by kernel_rfl
theorem laws_heldTrmCellS.bits10:waitsOk laws_heldTrmCellS.T10.2 laws_heldTrmCellS.B10=true:=by kernel_rfl
set_option maxHeartbeats 8000000 in
set_option maxRecDepth 100000 in
theorem laws_heldTrmCellS.calls (k:Nat) (A0:Option Addr) (c0:Nat) (l0:List (S47)) (a1:Int) (r:Int) (w:World) (hr0:Kd.C k47 w A0 l0.length l0) (hc0:l0.length≤c0) (h:laws_heldTrmCellS.f k l0 a1=some r) :
  Calls Tryd.prog 25 #[.slice A0 l0.length c0,.int .i64 a1] w fun e w'=>e = .returned (.int .i64 r)∧Below w.heap.size w w':=by
 have HR0:=Aside0.mk hr0
 have HC0:=Aside0.mk hc0
 clear hr0 hc0
 have HB:=Aside0.mk (Below.refl w.heap.size w)
 have H:(laws_heldTrmCellS.l0 k l0 a1 0)=some r:=h
 clear h
 have H':=Aside0.mk H
 clear H
 go_enter Tryd.func25,Tryd.ntmps25
 go_wp2
 go_loopg [1,5] k (fun kq v1 v5 w'=>∃ (x1_1:Int) (x5_1:Int),v1 = .int .i64 x1_1∧v5 = .int .i64 x5_1∧Aside0 (laws_heldTrmCellS.l0 kq l0 x1_1 x5_1=some r)∧Aside0 (kq≤k)∧Aside0 (Below w.heap.size w w'))
 case atStart=>exact ⟨(a1),(0),qz5,qz5,H',⟨Nat.le_refl _⟩,⟨qz2⟩⟩
 case round=>
  clear H'
  try clear c2
  try clear p2
  obtain ⟨x1_1,x5_1,rfl,rfl,HA,HK1,HB⟩:=hrel
  cases gk with
  | zero=>exact absurd HA.out (by simp [laws_heldTrmCellS.l0])
  | succ k1=>
   have H:=HA.out
   clear HA
   simp only [laws_heldTrmCellS.l0] at H
   by_cases c3:x5_1<(l0.length:Int)
   ·rw [if_pos c3] at H
    have c3b0:decide (x5_1<(l0.length:Int))=true:=decide_eq_true c3
    clear c3
    by_cases c4:0≤x5_1
    ·rw [if_pos c4] at H
     have c4b0:decide (0≤x5_1)=true:=decide_eq_true c4
     clear c4
     by_cases c5:((rd_T47 l0 x5_1).f0)=x1_1
     ·rw [if_pos c5] at H
      have c5b0:(((rd_T47 l0 x5_1).f0) == x1_1)=true:=beq_iff_eq.mpr c5
      have c5b1:(((rd_T47 l0 x5_1).f0) != x1_1)=false:=bne_eq_false_iff_eq.mpr c5
      clear c5
      by_cases c6:((rd_T47 l0 x5_1).f1)=(wrap64 (x1_1+1))
      ·rw [if_pos c6] at H
       have c6b0:(((rd_T47 l0 x5_1).f1) == (wrap64 (x1_1+1)))=true:=beq_iff_eq.mpr c6
       have c6b1:(((rd_T47 l0 x5_1).f1) != (wrap64 (x1_1+1)))=false:=bne_eq_false_iff_eq.mpr c6
       clear c6
       replace H:=Option.bind_eq_some_iff.mp H
       obtain ⟨t188,A70,H⟩:=H
       try dsimp only at H
       have A7:=Aside0.mk A70
       clear A70
       by_cases c8:((rd_T47 l0 x5_1).f2).toList=t188.toList
       ·rw [if_pos c8] at H
        have c8b0:(((rd_T47 l0 x5_1).f2).toList == t188.toList)=true:=beq_iff_eq.mpr c8
        have c8b1:(((rd_T47 l0 x5_1).f2).toList != t188.toList)=false:=bne_eq_false_iff_eq.mpr c8
        clear c8
        have H':=Aside0.mk H
        clear H
        have p185:0≤(x5_1:Int):=of_decide_eq_true qz4
        have q185:x5_1<(l0.length:Int):=of_decide_eq_true qz4
        obtain ⟨ad185,e185,hx185_0,hx185_1,hx185_2⟩:=at_T47 HR0.out x5_1 p185 q185
        cases e185
        replace hx185_0:=(HB.out.cell (World.block_lt_of_cell? w _ hx185_0)).trans hx185_0
        replace hx185_1:=(HB.out.cell (World.block_lt_of_cell? w _ hx185_1)).trans hx185_1
        replace hx185_2:=(HB.out.cell (World.block_lt_of_cell? w _ hx185_2)).trans hx185_2
        replace p185:=eq_true p185
        replace q185:=eq_true q185
        have p186:0≤(x5_1:Int):=of_decide_eq_true qz4
        have q186:x5_1<(l0.length:Int):=of_decide_eq_true qz4
        obtain ⟨ad186,e186,hx186_0,hx186_1,hx186_2⟩:=at_T47 HR0.out x5_1 p186 q186
        obtain rfl:ad185=ad186:=(by injection e186)
        replace hx186_0:=(HB.out.cell (World.block_lt_of_cell? w _ hx186_0)).trans hx186_0
        replace hx186_1:=(HB.out.cell (World.block_lt_of_cell? w _ hx186_1)).trans hx186_1
        replace hx186_2:=(HB.out.cell (World.block_lt_of_cell? w _ hx186_2)).trans hx186_2
        replace p186:=eq_true p186
        replace q186:=eq_true q186
        try go_wp2
        have n0_:=Aside0.mk (below_drew1 HB.out)
        clear HB
        have HB:=n0_
        clear n0_
        have p187:0≤(x5_1:Int):=of_decide_eq_true qz4
        have q187:x5_1<(l0.length:Int):=of_decide_eq_true qz4
        obtain ⟨ad187,e187,hx187_0,hx187_1,hx187_2⟩:=at_T47 HR0.out x5_1 p187 q187
        have hw187_2:=hx187_2
        have hw187_1:=hx187_1
        have hw187_0:=hx187_0
        obtain rfl:ad185=ad187:=(by injection e187)
        replace hx187_0:=(HB.out.cell (World.block_lt_of_cell? w _ hx187_0)).trans hx187_0
        replace hx187_1:=(HB.out.cell (World.block_lt_of_cell? w _ hx187_1)).trans hx187_1
        replace hx187_2:=(HB.out.cell (World.block_lt_of_cell? w _ hx187_2)).trans hx187_2
        replace p187:=eq_true p187
        replace q187:=eq_true q187
        refine start_ (n:=8) (S:=fun w'=>w'.cell? (ad185.add ((x5_1).toNat * 3))=some (.int .i64 ((rd_T47 l0 x5_1).f0))∧w'.cell? ⟨(ad185.add ((x5_1).toNat * 3)).block,(ad185.add ((x5_1).toNat * 3)).off+1,none⟩=some (.int .i64 ((rd_T47 l0 x5_1).f1))∧w'.cell? ⟨(ad185.add ((x5_1).toNat * 3)).block,(ad185.add ((x5_1).toNat * 3)).off+2,none⟩=some (.string ((rd_T47 l0 x5_1).f2))) (ds:=[]) #[false,false,false,false,false,false,false,false] (by kernel_rfl) rfl rfl ⟨((HB.out.cell (World.block_lt_of_cell? w _ hw187_0)).trans hw187_0),((HB.out.cell (World.block_lt_of_cell? w _ hw187_1)).trans hw187_1),((HB.out.cell (World.block_lt_of_cell? w _ hw187_2)).trans hw187_2)⟩ (fun hHeld=>?_);refine with_tabW laws_heldTrmCellS.tab10 laws_heldTrmCellS.bits10 (fun HT_ HW_=>?_)
        generalize wr.drew=w9 at HB hx187_0 hx187_1 hx187_2 hHeld ⊢
        refine pure_ (i:=0) (N:=some 30) (v:=?_) (a':=?_) #[true,false,false,false,false,false,false,false] rfl rfl (any_of HT_.out (by kernel_rfl)) (fun _ _ _ h=>h) (Or.inl ⟨by rfl,?_⟩) ?_ ?_
        rotate_left
        ·intro w'
         go_simp
         with_reducible rfl
        rotate_left
        ·simp only [Act.put,List.setIfInBounds_toArray,List.set_cons_zero,List.set_cons_succ,i64_w,i32_w]
         rfl
        refine pure_ (i:=1) (N:=some 31) (v:=?_) (a':=?_) #[true,true,false,false,false,false,false,false] rfl rfl (any_of HT_.out (by kernel_rfl)) (fun _ _ _ h=>h) (Or.inl ⟨by rfl,?_⟩) ?_ ?_
        rotate_left
        ·intro w'
         go_simp
         with_reducible rfl
        rotate_left
        ·simp only [Act.put,List.setIfInBounds_toArray,List.set_cons_zero,List.set_cons_succ,i64_w,i32_w]
         rfl
        refine pure_ (i:=2) (N:=some 32) (v:=?_) (a':=?_) #[true,true,true,false,false,false,false,false] rfl rfl (any_of HT_.out (by kernel_rfl)) (fun _ _ _ h=>h) (Or.inl ⟨by rfl,?_⟩) ?_ ?_
        rotate_left
        ·intro w'
         go_simp
         with_reducible rfl
        rotate_left
        ·simp only [Act.put,List.setIfInBounds_toArray,List.set_cons_zero,List.set_cons_succ,i64_w,i32_w]
         rfl
        refine pure_ (i:=3) (N:=some 33) (v:=?_) (a':=?_) #[true,true,true,true,false,false,false,false] rfl rfl (any_of HT_.out (by kernel_rfl)) (fun _ _ _ h=>h) (Or.inl ⟨by rfl,?_⟩) ?_ ?_
        rotate_left
        ·intro w'
         go_simp
         with_reducible rfl
        rotate_left
        ·simp only [Act.put,List.setIfInBounds_toArray,List.set_cons_zero,List.set_cons_succ,i64_w,i32_w]
         rfl
        refine pure_ (i:=5) (N:=some 35) (v:=?_) (a':=?_) #[true,true,true,true,false,true,false,false] rfl rfl (any_of HT_.out (by kernel_rfl)) (fun _ _ _ h=>h) (Or.inl ⟨by rfl,?_⟩) ?_ ?_
        rotate_left
        ·intro w'
         go_simp
         with_reducible rfl
        rotate_left
        ·simp only [Act.put,List.setIfInBounds_toArray,List.set_cons_zero,List.set_cons_succ,i64_w,i32_w]
         rfl
        refine take_ (i:=4) (N:=some 34) (v:=?_) (a':=?_) #[true,true,true,true,true,true,false,false] rfl rfl (take_ofW HT_.out HW_.out (by kernel_rfl)) (fun _ _ _ h=>h) (Or.inl ⟨by rfl,?_⟩) hHeld ?_ ?_
        rotate_left
        ·rintro w' ⟨s0,s1,s2⟩
         go_simp
         with_reducible rfl
        rotate_left
        ·simp only [Act.put,List.setIfInBounds_toArray,List.set_cons_zero,List.set_cons_succ,i64_w,i32_w]
         rfl
        refine one_ (i:=6) (N:=some 36) #[true,true,true,true,true,true,true,false] rfl rfl (one_of HT_.out (by kernel_rfl)) (by decide) (fun K hK=>?_)
        refine goes_ Tryd.func48 (by kernel_rfl) rfl #[.int .i64 (wrap64 ((wrap64 (x1_1+1))+1))] (by rfl) rfl rfl qz14 ?_
        with_reducible refine (laws_markText.calls k1 (wrap64 ((wrap64 (x1_1+1))+1)) t188 _ A7.out).mono ?_
        rintro e w10 ⟨rfl,hb⟩
        refine ⟨_,rfl,?_⟩
        have n0_:=Aside0.mk (below_step qz1 hb)
        clear HB
        have HB:=n0_
        clear n0_
        (try clear hb)
        (try clear hb2)
        (try clear hk)
        (try clear hi)
        refine hK.out _ _ ⟨((HB.out.cell (World.block_lt_of_cell? w _ hw187_0)).trans hw187_0),((HB.out.cell (World.block_lt_of_cell? w _ hw187_1)).trans hw187_1),((HB.out.cell (World.block_lt_of_cell? w _ hw187_2)).trans hw187_2)⟩ (fun hHeld=>?_)
        clear hK K
        refine norm_ (a':=?_) ?_ ?_
        rotate_left
        ·show Act.put _ (some 36) _=_
         simp only [Act.put,List.setIfInBounds_toArray,List.set_cons_zero,List.set_cons_succ,i64_w,i32_w]
         rfl
        refine pure_ (i:=7) (N:=some 37) (v:=?_) (a':=?_) #[true,true,true,true,true,true,true,true] rfl rfl (any_of HT_.out (by kernel_rfl)) (fun _ _ _ h=>h) (Or.inl ⟨by rfl,?_⟩) ?_ ?_
        rotate_left
        ·intro w'
         go_simp
         with_reducible rfl
        rotate_left
        ·simp only [Act.put,List.setIfInBounds_toArray,List.set_cons_zero,List.set_cons_succ,i64_w,i32_w]
         rfl
        refine done_ (done_of HT_.out (by kernel_rfl)) ?_
        try go_wp2
        go_roundg k1
        case measure=>have:=HK1.out;omega
        case rel=>exact ⟨(wrap64 ((wrap64 ((wrap64 (x1_1+1))+1))+1)),(wrap64 (x5_1+1)),qz5,qz5,H',⟨by have:=HK1.out;omega⟩,⟨qz2⟩⟩
       ·rw [if_neg c8] at H
        have c8b0:(((rd_T47 l0 x5_1).f2).toList == t188.toList)=false:=beq_eq_false_iff_ne.mpr c8
        have c8b1:(((rd_T47 l0 x5_1).f2).toList != t188.toList)=true:=bne_iff_ne.mpr c8
        obtain rfl:=Option.some.inj H
        have p185:0≤(x5_1:Int):=of_decide_eq_true qz4
        have q185:x5_1<(l0.length:Int):=of_decide_eq_true qz4
        obtain ⟨ad185,e185,hx185_0,hx185_1,hx185_2⟩:=at_T47 HR0.out x5_1 p185 q185
        cases e185
        replace hx185_0:=(HB.out.cell (World.block_lt_of_cell? w _ hx185_0)).trans hx185_0
        replace hx185_1:=(HB.out.cell (World.block_lt_of_cell? w _ hx185_1)).trans hx185_1
        replace hx185_2:=(HB.out.cell (World.block_lt_of_cell? w _ hx185_2)).trans hx185_2
        replace p185:=eq_true p185
        replace q185:=eq_true q185
        have p186:0≤(x5_1:Int):=of_decide_eq_true qz4
        have q186:x5_1<(l0.length:Int):=of_decide_eq_true qz4
        obtain ⟨ad186,e186,hx186_0,hx186_1,hx186_2⟩:=at_T47 HR0.out x5_1 p186 q186
        obtain rfl:ad185=ad186:=(by injection e186)
        replace hx186_0:=(HB.out.cell (World.block_lt_of_cell? w _ hx186_0)).trans hx186_0
        replace hx186_1:=(HB.out.cell (World.block_lt_of_cell? w _ hx186_1)).trans hx186_1
        replace hx186_2:=(HB.out.cell (World.block_lt_of_cell? w _ hx186_2)).trans hx186_2
        replace p186:=eq_true p186
        replace q186:=eq_true q186
        try go_wp2
        have n0_:=Aside0.mk (below_drew1 HB.out)
        clear HB
        have HB:=n0_
        clear n0_
        have p187:0≤(x5_1:Int):=of_decide_eq_true qz4
        have q187:x5_1<(l0.length:Int):=of_decide_eq_true qz4
        obtain ⟨ad187,e187,hx187_0,hx187_1,hx187_2⟩:=at_T47 HR0.out x5_1 p187 q187
        have hw187_2:=hx187_2
        have hw187_1:=hx187_1
        have hw187_0:=hx187_0
        obtain rfl:ad185=ad187:=(by injection e187)
        replace hx187_0:=(HB.out.cell (World.block_lt_of_cell? w _ hx187_0)).trans hx187_0
        replace hx187_1:=(HB.out.cell (World.block_lt_of_cell? w _ hx187_1)).trans hx187_1
        replace hx187_2:=(HB.out.cell (World.block_lt_of_cell? w _ hx187_2)).trans hx187_2
        replace p187:=eq_true p187
        replace q187:=eq_true q187
        refine start_ (n:=8) (S:=fun w'=>w'.cell? (ad185.add ((x5_1).toNat * 3))=some (.int .i64 ((rd_T47 l0 x5_1).f0))∧w'.cell? ⟨(ad185.add ((x5_1).toNat * 3)).block,(ad185.add ((x5_1).toNat * 3)).off+1,none⟩=some (.int .i64 ((rd_T47 l0 x5_1).f1))∧w'.cell? ⟨(ad185.add ((x5_1).toNat * 3)).block,(ad185.add ((x5_1).toNat * 3)).off+2,none⟩=some (.string ((rd_T47 l0 x5_1).f2))) (ds:=[]) #[false,false,false,false,false,false,false,false] (by kernel_rfl) rfl rfl ⟨((HB.out.cell (World.block_lt_of_cell? w _ hw187_0)).trans hw187_0),((HB.out.cell (World.block_lt_of_cell? w _ hw187_1)).trans hw187_1),((HB.out.cell (World.block_lt_of_cell? w _ hw187_2)).trans hw187_2)⟩ (fun hHeld=>?_);refine with_tabW laws_heldTrmCellS.tab10 laws_heldTrmCellS.bits10 (fun HT_ HW_=>?_)
        generalize wr.drew=w11 at HB hx187_0 hx187_1 hx187_2 hHeld ⊢
        refine pure_ (i:=0) (N:=some 30) (v:=?_) (a':=?_) #[true,false,false,false,false,false,false,false] rfl rfl (any_of HT_.out (by kernel_rfl)) (fun _ _ _ h=>h) (Or.inl ⟨by rfl,?_⟩) ?_ ?_
        rotate_left
        ·intro w'
         go_simp
         with_reducible rfl
        rotate_left
        ·simp only [Act.put,List.setIfInBounds_toArray,List.set_cons_zero,List.set_cons_succ,i64_w,i32_w]
         rfl
        refine pure_ (i:=1) (N:=some 31) (v:=?_) (a':=?_) #[true,true,false,false,false,false,false,false] rfl rfl (any_of HT_.out (by kernel_rfl)) (fun _ _ _ h=>h) (Or.inl ⟨by rfl,?_⟩) ?_ ?_
        rotate_left
        ·intro w'
         go_simp
         with_reducible rfl
        rotate_left
        ·simp only [Act.put,List.setIfInBounds_toArray,List.set_cons_zero,List.set_cons_succ,i64_w,i32_w]
         rfl
        refine pure_ (i:=2) (N:=some 32) (v:=?_) (a':=?_) #[true,true,true,false,false,false,false,false] rfl rfl (any_of HT_.out (by kernel_rfl)) (fun _ _ _ h=>h) (Or.inl ⟨by rfl,?_⟩) ?_ ?_
        rotate_left
        ·intro w'
         go_simp
         with_reducible rfl
        rotate_left
        ·simp only [Act.put,List.setIfInBounds_toArray,List.set_cons_zero,List.set_cons_succ,i64_w,i32_w]
         rfl
        refine pure_ (i:=3) (N:=some 33) (v:=?_) (a':=?_) #[true,true,true,true,false,false,false,false] rfl rfl (any_of HT_.out (by kernel_rfl)) (fun _ _ _ h=>h) (Or.inl ⟨by rfl,?_⟩) ?_ ?_
        rotate_left
        ·intro w'
         go_simp
         with_reducible rfl
        rotate_left
        ·simp only [Act.put,List.setIfInBounds_toArray,List.set_cons_zero,List.set_cons_succ,i64_w,i32_w]
         rfl
        refine pure_ (i:=5) (N:=some 35) (v:=?_) (a':=?_) #[true,true,true,true,false,true,false,false] rfl rfl (any_of HT_.out (by kernel_rfl)) (fun _ _ _ h=>h) (Or.inl ⟨by rfl,?_⟩) ?_ ?_
        rotate_left
        ·intro w'
         go_simp
         with_reducible rfl
        rotate_left
        ·simp only [Act.put,List.setIfInBounds_toArray,List.set_cons_zero,List.set_cons_succ,i64_w,i32_w]
         rfl
        refine take_ (i:=4) (N:=some 34) (v:=?_) (a':=?_) #[true,true,true,true,true,true,false,false] rfl rfl (take_ofW HT_.out HW_.out (by kernel_rfl)) (fun _ _ _ h=>h) (Or.inl ⟨by rfl,?_⟩) hHeld ?_ ?_
        rotate_left
        ·rintro w' ⟨s0,s1,s2⟩
         go_simp
         with_reducible rfl
        rotate_left
        ·simp only [Act.put,List.setIfInBounds_toArray,List.set_cons_zero,List.set_cons_succ,i64_w,i32_w]
         rfl
        refine one_ (i:=6) (N:=some 36) #[true,true,true,true,true,true,true,false] rfl rfl (one_of HT_.out (by kernel_rfl)) (by decide) (fun K hK=>?_)
        refine goes_ Tryd.func48 (by kernel_rfl) rfl #[.int .i64 (wrap64 ((wrap64 (x1_1+1))+1))] (by rfl) rfl rfl qz14 ?_
        with_reducible refine (laws_markText.calls k1 (wrap64 ((wrap64 (x1_1+1))+1)) t188 _ A7.out).mono ?_
        rintro e w12 ⟨rfl,hb⟩
        refine ⟨_,rfl,?_⟩
        have n0_:=Aside0.mk (below_step qz1 hb)
        clear HB
        have HB:=n0_
        clear n0_
        (try clear hb)
        (try clear hb2)
        (try clear hk)
        (try clear hi)
        refine hK.out _ _ ⟨((HB.out.cell (World.block_lt_of_cell? w _ hw187_0)).trans hw187_0),((HB.out.cell (World.block_lt_of_cell? w _ hw187_1)).trans hw187_1),((HB.out.cell (World.block_lt_of_cell? w _ hw187_2)).trans hw187_2)⟩ (fun hHeld=>?_)
        clear hK K
        refine norm_ (a':=?_) ?_ ?_
        rotate_left
        ·show Act.put _ (some 36) _=_
         simp only [Act.put,List.setIfInBounds_toArray,List.set_cons_zero,List.set_cons_succ,i64_w,i32_w]
         rfl
        refine pure_ (i:=7) (N:=some 37) (v:=?_) (a':=?_) #[true,true,true,true,true,true,true,true] rfl rfl (any_of HT_.out (by kernel_rfl)) (fun _ _ _ h=>h) (Or.inl ⟨by rfl,?_⟩) ?_ ?_
        rotate_left
        ·intro w'
         go_simp
         with_reducible rfl
        rotate_left
        ·simp only [Act.put,List.setIfInBounds_toArray,List.set_cons_zero,List.set_cons_succ,i64_w,i32_w]
         rfl
        refine done_ (done_of HT_.out (by kernel_rfl)) ?_
        try go_wp2
        go_ret
        exact ⟨qz3,qz2⟩
      ·rw [if_neg c6] at H
       have c6b0:(((rd_T47 l0 x5_1).f1) == (wrap64 (x1_1+1)))=false:=beq_eq_false_iff_ne.mpr c6
       have c6b1:(((rd_T47 l0 x5_1).f1) != (wrap64 (x1_1+1)))=true:=bne_iff_ne.mpr c6
       obtain rfl:=Option.some.inj H
       have p185:0≤(x5_1:Int):=of_decide_eq_true qz4
       have q185:x5_1<(l0.length:Int):=of_decide_eq_true qz4
       obtain ⟨ad185,e185,hx185_0,hx185_1,hx185_2⟩:=at_T47 HR0.out x5_1 p185 q185
       cases e185
       replace hx185_0:=(HB.out.cell (World.block_lt_of_cell? w _ hx185_0)).trans hx185_0
       replace hx185_1:=(HB.out.cell (World.block_lt_of_cell? w _ hx185_1)).trans hx185_1
       replace hx185_2:=(HB.out.cell (World.block_lt_of_cell? w _ hx185_2)).trans hx185_2
       replace p185:=eq_true p185
       replace q185:=eq_true q185
       have p186:0≤(x5_1:Int):=of_decide_eq_true qz4
       have q186:x5_1<(l0.length:Int):=of_decide_eq_true qz4
       obtain ⟨ad186,e186,hx186_0,hx186_1,hx186_2⟩:=at_T47 HR0.out x5_1 p186 q186
       obtain rfl:ad185=ad186:=(by injection e186)
       replace hx186_0:=(HB.out.cell (World.block_lt_of_cell? w _ hx186_0)).trans hx186_0
       replace hx186_1:=(HB.out.cell (World.block_lt_of_cell? w _ hx186_1)).trans hx186_1
       replace hx186_2:=(HB.out.cell (World.block_lt_of_cell? w _ hx186_2)).trans hx186_2
       replace p186:=eq_true p186
       replace q186:=eq_true q186
       go_wp2
       go_ret
       exact ⟨qz3,qz2⟩
     ·rw [if_neg c5] at H
      have c5b0:(((rd_T47 l0 x5_1).f0) == x1_1)=false:=beq_eq_false_iff_ne.mpr c5
      have c5b1:(((rd_T47 l0 x5_1).f0) != x1_1)=true:=bne_iff_ne.mpr c5
      obtain rfl:=Option.some.inj H
      have p185:0≤(x5_1:Int):=of_decide_eq_true qz4
      have q185:x5_1<(l0.length:Int):=of_decide_eq_true qz4
      obtain ⟨ad185,e185,hx185_0,hx185_1,hx185_2⟩:=at_T47 HR0.out x5_1 p185 q185
      cases e185
      replace hx185_0:=(HB.out.cell (World.block_lt_of_cell? w _ hx185_0)).trans hx185_0
      replace hx185_1:=(HB.out.cell (World.block_lt_of_cell? w _ hx185_1)).trans hx185_1
      replace hx185_2:=(HB.out.cell (World.block_lt_of_cell? w _ hx185_2)).trans hx185_2
      replace p185:=eq_true p185
      replace q185:=eq_true q185
      go_wp2
      go_ret
      exact ⟨qz3,qz2⟩
    ·rw [if_neg c4] at H
     exact absurd H (by simp)
   ·rw [if_neg c3] at H
    have c3b0:decide (x5_1<(l0.length:Int))=false:=decide_eq_false c3
    clear c3
    obtain rfl:=Option.some.inj H
    go_wp2
    go_ret
    exact ⟨qz3,qz2⟩

end Go.Proofs.YtepkgjcobocbpaaDoor.P
