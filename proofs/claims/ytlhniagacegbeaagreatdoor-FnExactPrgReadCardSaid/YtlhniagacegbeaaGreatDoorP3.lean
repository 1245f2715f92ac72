/- Contracts of functions of the program: each as a Lean function, and that its call does what that says; printed by cprint.py (this session) over print.py of the kit. Conditions: the hypotheses of each theorem. -/
import Derived.Test.YtlhniagacegbeaaGreatDoorVZ
import Derived.Test.YtlhniagacegbeaaGreatDoorP0
import Derived.Test.YtlhniagacegbeaaGreatDoorP1
import Derived.Test.YtlhniagacegbeaaGreatDoorP2
namespace Go.Proofs.YtlhniagacegbeaaGreatDoor.P
open Go.RowKit Go.Proofs.YtlhniagacegbeaaGreatDoorW.PrintWords Go.Proofs.YtlhniagacegbeaaGreatDoorW.PrintLast Go.Proofs.YtlhniagacegbeaaGreatDoorW.PrintMore
attribute [local go_sem] max2_int min2_int max_two min_two max_three min_three max_four min_four   -- for this text's walks alone
set_option linter.unusedVariables false
set_option linter.unusedSimpArgs false

/-! ### spec_l3Read: function 25 -/
def spec_l3Read.l0:Nat→List ByteArray→List (List (S63))→Int→Option ((List (List (S63))) × Bool)
 | 0,_,_,_=>none
 | k+1,x0,x4,x5=>if x5<(x0.length:Int) then (if 0≤x5 then ((spec_TrmRead.f k (rdOf ByteArray.empty x0 x5)).bind fun bt205=>(if bt205.2=true then (if x4.length<5864062014805 then (spec_l3Read.l0 k x0 (x4++[bt205.1]) (wrap64 (x5+1))) else (none)) else (some (x4,false)))) else (none)) else (some (x4,true))
def spec_l3Read.f (k:Nat) (l0:List ByteArray):Option ((List (List (S63))) × Bool):=spec_l3Read.l0 k l0 (([]:List (List (S63)))) 0
set_option maxHeartbeats 8000000 in
set_option maxRecDepth 100000 in
theorem spec_l3Read.calls (k:Nat) (A0:Option Addr) (c0:Nat) (l0:List ByteArray) (r1:List (List (S63))) (r2:Bool) (w:World) (hr0:Kd.C Kd.string w A0 l0.length l0) (hc0:l0.length≤c0) (h:spec_l3Read.f k l0=some (r1,r2)) :
  Calls Tryz.prog 25 #[.slice A0 l0.length c0] w fun e w'=>∃ v0_:Value,e = .returned (.tuple #[v0_,.bool r2])∧Kd.S (Kd.slice 63 k63) 22 w' w.heap.size (fun _=>True) v0_ r1∧Below w.heap.size w w':=by
 have HR0:=Aside0.mk hr0;have HC0:=Aside0.mk hc0;clear hr0 hc0;have HB:=Aside0.mk (Below.refl w.heap.size w);have H:(spec_l3Read.l0 k l0 (([]:List (List (S63)))) 0)=some (r1,r2):=h;clear h;obtain ⟨y201,hy201⟩:∃ y_:List (List (S63)),y_=(([]:List (List (S63)))):=⟨_,rfl⟩;replace H:(spec_l3Read.l0 k l0 y201 0)=some (r1,r2):=by first|(rw [hy201];exact H)|exact H
 have Ny201:=Aside0.mk hy201;clear hy201;have H':=Aside0.mk H;clear H;go_enter Tryz.func25,Tryz.ntmps25
 go_wp2_with (first|((with_reducible refine gate_dst (N:=8) rfl ?_);refine Kd.S_lit (Kd.slice 63 k63) _ 22 ?hg (N:=8) ?hd (xs:=([]:List (List (S63)))) (inner:=[]) (ok:=fun _=>True) (okp:=fun _=>True) ?hr ?hp (fun _ hk=>hk) trivial (Below.refl _ _) (Nat.le_refl _) (by simp) ?_;(case hd=>rfl);(case hg=>rfl);(case hr=>first|(go_simp;done)|(go_simp;rfl));(case hp=>exact (Reps.none _ _));intro v202 w2 ho3 hb hg_ hnew_;clear hg_ hnew_;(first|rw [← Ny201.out] at ho3|(simp only [Int.reduceToNat] at ho3;rw [← Ny201.out] at ho3));have n_:=as2 (Kd.S_lower ho3 (below_size qz3)) (below_step qz3 hb);clear HB;obtain ⟨HO203,HB⟩:=n_;clear hb ho3))
 go_loopg [4,5] k (fun kq v4 v5 w'=>∃ (x4_1:List (List (S63))) (x5_1:Int),v5 = .int .i64 x5_1∧Aside0 (spec_l3Read.l0 kq l0 x4_1 x5_1=some (r1,r2))∧Aside0 (kq≤k)∧Aside0 (Kd.S (Kd.slice 63 k63) 22 w' w.heap.size (fun _=>True) v4 x4_1)∧Aside0 (Below w.heap.size w w'))
 case atStart=>exact ⟨(y201),(0),qz5,H',⟨Nat.le_refl _⟩,⟨Kd.Sp HO203.out⟩,⟨qz1⟩⟩
 case round=>
  clear H';obtain ⟨x4_1,x5_1,rfl,HA,HK1,HO_4,HB⟩:=hrel;cases gk with
  | zero=>exact absurd HA.out (by simp [spec_l3Read.l0])
  | succ k1=>
   have H:=HA.out;clear HA;simp only [spec_l3Read.l0] at H;by_cases c4:x5_1<(l0.length:Int)
   ·rw [if_pos c4] at H
    have c4b0:decide (x5_1<(l0.length:Int))=true:=decide_eq_true c4;clear c4;by_cases c5:0≤x5_1
    ·rw [if_pos c5] at H
     have c5b0:decide (0≤x5_1)=true:=decide_eq_true c5;clear c5;replace H:=Option.bind_eq_some_iff.mp H;obtain ⟨⟨t205,t206⟩,A60,H⟩:=H;(try dsimp only at H);have A6:=Aside0.mk A60;clear A60;have HC7:=Aside0.mk H;clear H;have p204:0≤(x5_1:Int):=of_decide_eq_true qz4;have q204:x5_1<(l0.length:Int):=of_decide_eq_true qz4;obtain ⟨ad204,e204,hx204_0⟩:=Kd.at_string HR0.out x5_1 p204 q204;cases e204
     replace hx204_0:=(HB.out.cell (World.block_lt_of_cell? w _ hx204_0)).trans hx204_0;replace p204:=eq_true p204;replace q204:=eq_true q204;go_upto_if 24 with (first|(go_at_call 44;(with_reducible refine (spec_TrmRead.calls k1 (rdOf ByteArray.empty l0 x5_1) t205 t206 _ A6.out).mono ?_);rintro e w8 ⟨v207,rfl,ho0,hb⟩;have n_:=as3 (Kd.S_elder' (Kd.Sp HO_4.out) (Kd.R_base ho0) hb) (Kd.R_lower ho0 (below_size qz3)) (below_step qz3 hb);clear HO_4 HB;obtain ⟨HO_4,HO208,HB⟩:=n_;clear hb ho0))
     (try simp only [Act.put,sA_,sZ_,sS_]);have H:=HC7.out;clear HC7;by_cases c9:t206=true
     ·subst c9
      have H1:(if x4_1.length<5864062014805 then (spec_l3Read.l0 k1 l0 (x4_1++[t205]) (wrap64 (x5_1+1))) else (none))=some (r1,r2):=qz26;clear H;have H:=H1;clear H1;by_cases c10:x4_1.length<5864062014805
      ·rw [if_pos c10] at H
       have LMc10:=Aside0.mk c10;clear c10;obtain ⟨y209,hy209⟩:∃ y_:List (List (S63)),y_=(x4_1++[t205]):=⟨_,rfl⟩;replace H:(spec_l3Read.l0 k1 l0 y209 (wrap64 (x5_1+1)))=some (r1,r2):=by first|(rw [hy209];exact H)|exact H
       have Ny209:=Aside0.mk hy209;clear hy209;have H':=Aside0.mk H;clear H;obtain ⟨Ao12,co12,eo12⟩:=Kd.R_slice HO208.out;subst eo12
       go_wp2_with (first|((with_reducible refine gate_builtin (b:=.append) (xs:=#[.tmp 26,.tmp 28]) rfl ?_);at_builtin;refine Kd.S_append (Kd.slice 63 k63) (w0:=w) w.heap.size rfl (.tmp 26) (.tmp 28) 46 22 (.slice none 0 0) 24 rfl Tryz.underlying46 info22 rfl (by decide) (by omega) u4 x4_1 t205 [.slice Ao12 t205.length co12] (fun _=>True) (fun k_=>some k_=(.slice Ao12 t205.length co12:Value).ownBlock) rfl rfl ?aP (fun k_ hk_=>((Kd.R_mono (ok':=fun k_=>((fun _=>True)) k_∧some k_≠(u4:Value).ownBlock) (Kd.R_apart' (HO208.out) (Kd.S_typed HO_4.out) (by decide)) (fun k_ hk=>⟨trivial,hk.2⟩))).1 k_ hk_.symm) ?aF ?aO ?aB ?aS ?aL ?_;(case aP=>exact Kd.M_row (Kd.R_mono (Kd.R_tight rfl (Kd.R_mono (ok':=fun k_=>((fun _=>True)) k_∧some k_≠(u4:Value).ownBlock) (Kd.R_apart' (HO208.out) (Kd.S_typed HO_4.out) (by decide)) (fun k_ hk=>⟨trivial,hk.2⟩))) (fun _ h_=>h_)));(case aB=>exact qz3);(case aF=>exact (fun _ _=>trivial));(case aO=>exact (Kd.Sp (Kd.S_mono HO_4.out (fun k_ hk=>⟨trivial,fun e_=>hk.2 e_⟩))));(case aS=>exact (below_size qz3));(case aL=>have:=LMc10.out;omega);intro v210 w11 ho hb hg hat;rw [← Ny209.out] at ho;have n_:=as2 (hb) (ho);clear HB HO_4 HO208;obtain ⟨HB,HO211⟩:=n_;clear ho hb hg hat))
       go_roundg k1
       case measure=>have:=HK1.out;omega
       case rel=>exact ⟨(y209),(wrap64 (x5_1+1)),qz5,H',⟨by have:=HK1.out;omega⟩,⟨Kd.Sp HO211.out⟩,⟨qz1⟩⟩
      ·rw [if_neg c10] at H
       exact absurd H (by simp)
     ·replace c9:=Bool.eq_false_iff.mpr c9
      subst c9;have H1:(some (x4_1,false))=some (r1,r2):=qz15;clear H;have H:=H1;clear H1;simp only [Option.some.injEq,Prod.mk.injEq] at H;obtain ⟨rfl,rfl⟩:=H;go_wp2;go_ret2;exact ⟨_,qz2,by (with_reducible repeat (first|apply Kd.S_alloc|apply Kd.S_drewN|apply Kd.S_drew));exact Kd.S_mono HO_4.out (fun _ hk=>trivial),qz1⟩
    ·rw [if_neg c5] at H
     exact absurd H (by simp)
   ·rw [if_neg c4] at H
    have c4b0:decide (x5_1<(l0.length:Int))=false:=decide_eq_false c4;clear c4;simp only [Option.some.injEq,Prod.mk.injEq] at H;obtain ⟨rfl,rfl⟩:=H;go_wp2;go_ret2;exact ⟨_,qz2,by (with_reducible repeat (first|apply Kd.S_alloc|apply Kd.S_drewN|apply Kd.S_drew));exact HO_4.out,qz1⟩

/-! ### spec_GoalRead: function 6 -/
/-- which terms the words have -/
def spec_GoalRead.pick (ws:List ByteArray):Option (Int × List ByteArray):=
 if ws.length=3 then
  (if (ws.getD 1 ByteArray.empty).data.toList=[61] then some (2,[ws.getD 0 ByteArray.empty,ws.getD 2 ByteArray.empty])
  else if (ws.getD 1 ByteArray.empty).data.toList=[60] then some (4,[ws.getD 0 ByteArray.empty,ws.getD 2 ByteArray.empty]) else none)
 else if ws.length=5 then
  (if (ws.getD 1 ByteArray.empty).data.toList=[43]∧(ws.getD 3 ByteArray.empty).data.toList=[61] then some (5,[ws.getD 0 ByteArray.empty,ws.getD 2 ByteArray.empty,ws.getD 4 ByteArray.empty]) else none)
 else if ws.length=1 then some (1,[ws.getD 0 ByteArray.empty]) else none
def spec_GoalRead.f (k:Nat) (s:ByteArray):Option (Int × List (S63) × List (S63) × List (S63) × Bool):=(spec_l3Words.f k s).bind fun ws=>
 if ws=[] then none else
 if s.data.toList=[33] then some (3,[],[],[],true) else
 match spec_GoalRead.pick ws with
 | none=>some (0,[],[],[],false)
 | some q=>(spec_l3Read.f k q.2).bind fun t=>
  if t.2=true then
   (if t.1.length=q.2.length then
    (spec_GoalOk.f k q.1 (t.1.getD 0 []) (t.1.getD 1 []) (t.1.getD 2 [])).bind fun g=>
     if g=true then some (q.1,t.1.getD 0 [],t.1.getD 1 [],t.1.getD 2 [],true) else some (0,[],[],[],false)
   else none)
  else some (0,[],[],[],false)
theorem spec_GoalRead.lit (W:World) (xs:List ByteArray) (t:TypeId) (hl:xs.length≤9):Kd.string.C (W.alloc (.cells (xs.map Value.string).toArray t)) (some ⟨W.heap.size,0,none⟩) xs.length xs:=by
 refine ⟨rfl,by omega,fun _=>⟨_,rfl,fun j p hj=>⟨[.string p],rfl,rfl,fun i u hu=>?_⟩⟩⟩
 match i,hu with
 | 0,hu=>
  obtain rfl:=Option.some.inj hu;have e1:(⟨W.heap.size,0,none⟩:Addr).add (j * Kd.string.sz+0)=⟨W.heap.size,j,none⟩:=by simp [Addr.add,Kd.string,Kd.scalar];omega
  rw [e1,Go.World.cell?_alloc_mark]
  simp [hj]
 | i+1,hu=>simp at hu
theorem spec_GoalRead.lit2 (W:World) (n:Nat) (C:Array Value) (xs:List ByteArray) (t:TypeId) (hn:n=W.heap.size) (hC:C=(xs.map Value.string).toArray) (hl:xs.length≤9):Kd.string.C (W.alloc (.cells C t)) (some ⟨n,0,none⟩) xs.length xs:=by
 subst hn hC;exact spec_GoalRead.lit W xs t hl
theorem spec_GoalRead.one {W:World} {A:Option Addr} {xs:List ByteArray} (h:Kd.string.C W A xs.length xs) (hl:0<xs.length):Kd.string.C W A 1 [xs.getD 0 ByteArray.empty]:=by
 obtain ⟨_,_,h⟩:=h;obtain ⟨ad,rfl,hc⟩:=h hl;refine ⟨rfl,by omega,fun _=>⟨ad,rfl,fun j p hj=>?_⟩⟩
 match j,hj with
 | 0,hj=>
  refine hc 0 p ?_;rw [← Option.some.inj hj,List.getD_eq_getElem?_getD,List.getElem?_eq_getElem hl];rfl
 | j+1,hj=>simp at hj
theorem spec_GoalRead.pick_len {ws:List ByteArray} {q:Int × List ByteArray} (h:spec_GoalRead.pick ws=some q):q.2.length=1∨q.2.length=2∨q.2.length=3:=by
 unfold spec_GoalRead.pick at h
 repeat' split at h
 all_goals first|(cases h;done)|(obtain rfl:=Option.some.inj h;first|exact .inl rfl|exact .inr (.inl rfl)|exact .inr (.inr rfl))
theorem spec_GoalRead.l1 {α:Type}:∀ {l:List α},l.length=1→∃ a,l=[a]
 | [a],_=>⟨a,rfl⟩
theorem spec_GoalRead.l2 {α:Type}:∀ {l:List α},l.length=2→∃ a b,l=[a,b]
 | [a,b],_=>⟨a,b,rfl⟩
theorem spec_GoalRead.l3 {α:Type}:∀ {l:List α},l.length=3→∃ a b c,l=[a,b,c]
 | [a,b,c],_=>⟨a,b,c,rfl⟩
theorem spec_GoalRead.ok1 (k:Nat) (a:Int) (A0:Option Addr) (c0:Nat) (l0:List (S63)) (r:Bool) (w:World) (h0:Kd.C k63 w A0 l0.length l0) (g0:l0.length≤c0) (h:spec_GoalOk.f k a l0 [] []=some r) :
  Calls Tryz.prog 17 #[.agg #[.int .i64 a,.slice A0 l0.length c0,.slice none 0 0,.slice none 0 0]] w fun e w'=>e = .returned (.bool r)∧Below w.heap.size w w':=
 spec_GoalOk.calls k a A0 c0 l0 none 0 [] none 0 [] r w h0 g0 (Kd.C_nil _ _) (Nat.le_refl _) (Kd.C_nil _ _) (Nat.le_refl _) h
theorem spec_GoalRead.ok2 (k:Nat) (a:Int) (A0:Option Addr) (c0:Nat) (l0:List (S63)) (A1:Option Addr) (c1:Nat) (l1:List (S63)) (r:Bool) (w:World) (h0:Kd.C k63 w A0 l0.length l0) (g0:l0.length≤c0) (h1:Kd.C k63 w A1 l1.length l1) (g1:l1.length≤c1) (h:spec_GoalOk.f k a l0 l1 []=some r) :
  Calls Tryz.prog 17 #[.agg #[.int .i64 a,.slice A0 l0.length c0,.slice A1 l1.length c1,.slice none 0 0]] w fun e w'=>e = .returned (.bool r)∧Below w.heap.size w w':=
 spec_GoalOk.calls k a A0 c0 l0 A1 c1 l1 none 0 [] r w h0 g0 h1 g1 (Kd.C_nil _ _) (Nat.le_refl _) h
set_option maxHeartbeats 8000000 in
set_option maxRecDepth 100000 in
theorem spec_GoalRead.calls (k:Nat) (a0:ByteArray) (r1:Int) (r2:List (S63)) (r3:List (S63)) (r4:List (S63)) (r5:Bool) (w:World) (h:spec_GoalRead.f k a0=some (r1,r2,r3,r4,r5)) :
  Calls Tryz.prog 6 #[.string a0] w fun e w'=>∃ v1_ v2_ v3_:Value,e = .returned (.tuple #[.agg #[.int .i64 r1,v1_,v2_,v3_],.bool r5])∧Kd.R k63 63 w' w.heap.size (fun k_=>some k_≠(v2_:Value).ownBlock∧some k_≠(v3_:Value).ownBlock) v1_ r2∧Kd.R k63 63 w' w.heap.size (fun k_=>some k_≠(v1_:Value).ownBlock∧some k_≠(v3_:Value).ownBlock) v2_ r3∧Kd.R k63 63 w' w.heap.size (fun k_=>some k_≠(v1_:Value).ownBlock∧some k_≠(v2_:Value).ownBlock) v3_ r4∧Below w.heap.size w w':=by
 unfold spec_GoalRead.f at h;obtain ⟨ws,hws,h2⟩:=Option.bind_eq_some_iff.1 h;clear h;have h:=h2;clear h2;by_cases hne:ws=[]
 ·rw [if_pos hne] at h;cases h
 rw [if_neg hne] at h;have hlen:1≤ws.length:=List.length_pos_iff.2 hne;have A1:=Aside0.mk hws;have HL:=Aside0.mk hlen;have HB:=Aside0.mk (Below.refl w.heap.size w);have hu:=Tryz.underlying24;clear hws hne hlen;have HH:=Aside0.mk h;clear h;go_enter Tryz.func6,Tryz.ntmps6;go_upto_if 12 with (first|((with_reducible refine gate_dst (N:=2) rfl ?_);refine box_event ?hg (N:=2) ?hd (cs:=#[.int .i64 0,.slice none 0 0,.slice none 0 0,.slice none 0 0]) (t:=24) ?hr ?_;(case hd=>rfl);(case hg=>rfl);(case hr=>first|(go_simp;done)|(go_simp;rfl));intro gb1 hg w4 hbox hb;have n_:=as3 (below_step qz3 hb) hbox ((by rw [hg];exact (below_size qz3)):w.heap.size≤gb1);clear HB;obtain ⟨HB,BK1,GE1⟩:=n_;clear hb hbox hg)|(go_at_call 24;(with_reducible refine (spec_l3Words.calls k a0 ws _ A1.out).mono ?_);rintro e w5 ⟨v1,rfl,ho0,hb⟩;obtain ⟨gw,cw,rfl,hgw,hcw,hxw,hkw⟩:=Kd.own_cells (Kd.own_of_R ho0) HL.out;have n_:=as4 (Kd.R_lower ho0 (below_size qz41)) (blk_below (blkp BK1.out) hb) (below_step qz41 hb) hcw;clear BK1 HB;obtain ⟨HO,BK1,HB,HCW⟩:=n_;clear ho0 hb hgw hcw hxw hkw))
 have h:=HH.out;clear HH;by_cases hb1:a0.data.toList=[33]
 ·rw [if_pos hb1] at h
  simp only [Option.some.injEq,Prod.mk.injEq] at h;obtain ⟨rfl,rfl,rfl,rfl,rfl⟩:=h;have c1:(a0.toList == ([33]:List UInt8))=true:=by rw [Lib.toList_data,hb1];rfl
  clear hb1;rw [c1];have hza_0:w5.cell? ⟨gb1,0,none⟩=some (.int .i64 0):=(blk_cell BK1.out 0).trans rfl;have hfa_0:=blk_frozen BK1.out 0;have hza_1:w5.cell? ⟨gb1,1,none⟩=some (.slice none 0 0):=(blk_cell BK1.out 1).trans rfl;have hfa_1:=blk_frozen BK1.out 1;have hza_2:w5.cell? ⟨gb1,2,none⟩=some (.slice none 0 0):=(blk_cell BK1.out 2).trans rfl;have hfa_2:=blk_frozen BK1.out 2;have hza_3:w5.cell? ⟨gb1,3,none⟩=some (.slice none 0 0):=(blk_cell BK1.out 3).trans rfl;have hfa_3:=blk_frozen BK1.out 3;go_wp2;refine bodyPost_ret (results_ct rfl _ _ gb1 24 #[.int .i64 3,.slice none 0 0,.slice none 0 0,.slice none 0 0] (0,0) _ rfl (blkp (blk_put4 BK1.out)) hu rfl (by kernel_rfl)) rfl ?_;exact ⟨_,_,_,rfl,Kd.R_nil _ _ _ _ _,Kd.R_nil _ _ _ _ _,Kd.R_nil _ _ _ _ _,qz41⟩
 rw [if_neg hb1] at h;have c1:(a0.toList == ([33]:List UInt8))=false:=by rw [Lib.toList_data];exact beq_eq_false_iff_ne.2 hb1
 clear hb1;rw [c1];clear c1;have HH:=Aside0.mk h;clear h;go_upto_region 5 with (((with_reducible refine gate_dst (N:=5) rfl ?_);refine box_event ?hg (N:=5) ?hd (cs:=#[.int .i64 0,.slice none 0 0,.slice none 0 0,.slice none 0 0]) (t:=24) ?hr ?_;(case hd=>rfl);(case hg=>rfl);(case hr=>first|(go_simp;done)|(go_simp;rfl));intro gb2 hg w6 hbox hb;have n_:=as6 (Kd.R_below (Kd.Rp HO.out) hb) (blk_below (blkp BK1.out) hb) (below_step qz41 hb) hbox ((by rw [hg];exact (below_size qz41)):w.heap.size≤gb2) ((by rw [hg];exact Nat.ne_of_lt (blk_lt (blkp BK1.out))):gb1≠gb2);clear HO BK1 HB;obtain ⟨HO,BK1,HB,BK2,GE2,N12⟩:=n_;clear hb hbox hg;have hzb_0:w6.cell? ⟨gb2,0,none⟩=some (.int .i64 0):=(blk_cell BK2.out 0).trans rfl;have hzb_1:w6.cell? ⟨gb2,1,none⟩=some (.slice none 0 0):=(blk_cell BK2.out 1).trans rfl;have hzb_2:w6.cell? ⟨gb2,2,none⟩=some (.slice none 0 0):=(blk_cell BK2.out 2).trans rfl;have hzb_3:w6.cell? ⟨gb2,3,none⟩=some (.slice none 0 0):=(blk_cell BK2.out 3).trans rfl;have hfb_0:=blk_frozen BK2.out 0;have hfb_1:=blk_frozen BK2.out 1;have hfb_2:=blk_frozen BK2.out 2;have hfb_3:=blk_frozen BK2.out 3))
 go_cut [6] (fun v6 wc=>v6 = .slice (some ⟨gw,0,none⟩) 1 cw∧Aside0 (Kd.R Kd.string 9 wc w.heap.size (fun _=>True) (.slice (some ⟨gw,0,none⟩) ws.length cw) ws)∧Aside0 (wc.heap[gb1]?=some (.cells #[.int .i64 0,.slice none 0 0,.slice none 0 0,.slice none 0 0] 24 (0,0)))∧Aside0 (wc.heap[gb2]?=some (.cells #[.int .i64 1,.slice none 0 0,.slice none 0 0,.slice none 0 0] 24 (0,0)))∧Aside0 (Below w.heap.size w wc))
 case first=>
  have hcw1:1≤cw:=Nat.le_trans HL.out HCW.out;go_wp2;go_meet
  case rel=>exact ⟨rfl,⟨(Kd.Rp (Kd.R_mono (Kd.R_put4 HO.out BK2.out) (fun _ hk=>trivial)))⟩,⟨(blkp (blk_far4 N12.out BK1.out))⟩,⟨(blkp (blk_put4 BK2.out))⟩,⟨qz14⟩⟩
 case rest=>
  obtain ⟨rfl,HO,BK1,BK2,HB⟩:=hcut;have HD3:=Aside0.mk (rfl:(3:Int)=3);have hx1:1<ws.length→wc.cell? ⟨gw,1,none⟩=some (.string (ws.getD 1 ByteArray.empty)):=fun h_=>(Kd.R_cell (d:=ByteArray.empty) HO.out 1 (by omega) (by omega)).1
  have HX1:=Aside0.mk hx1;clear hx1 HD3;go_upto_region 6 with (fail)
  go_cut [25] (fun v25 wx=>v25 = .bool (decide (ws.length=3∧(ws.getD 1 ByteArray.empty).data.toList=[61]))∧wx=wc)
  case first=>
   by_cases h3:ws.length=3
   ·have c3:((ws.length:Int) == 3)=true:=beq_iff_eq.2 (by omega)
    have hx1:=HX1.out (by omega);have hl1:(1<ws.length)=True:=eq_true (by omega);go_wp2;go_meet
    case rel=>exact ⟨congrArg Value.bool (by rw [Lib.toList_data];simp [h3,Bool.beq_eq_decide_eq]),rfl⟩
   ·have c3:((ws.length:Int) == 3)=false:=beq_eq_false_iff_ne.2 (by omega)
    go_wp2;go_meet
    case rel=>exact ⟨congrArg Value.bool (by simp [h3]),rfl⟩
  case rest=>
   obtain ⟨rfl,rfl⟩:=hcut;go_upto_if 25 with (fail)
   have hzd_0:wc.cell? ⟨gb2,0,none⟩=some (.int .i64 1):=(blk_cell BK2.out 0).trans rfl;have hzd_1:wc.cell? ⟨gb2,1,none⟩=some (.slice none 0 0):=(blk_cell BK2.out 1).trans rfl;have hzd_2:wc.cell? ⟨gb2,2,none⟩=some (.slice none 0 0):=(blk_cell BK2.out 2).trans rfl;have hzd_3:wc.cell? ⟨gb2,3,none⟩=some (.slice none 0 0):=(blk_cell BK2.out 3).trans rfl;have hfd_0:=blk_frozen BK2.out 0;have hfd_1:=blk_frozen BK2.out 1;have hfd_2:=blk_frozen BK2.out 2;have hfd_3:=blk_frozen BK2.out 3;have hze_0:wc.cell? ⟨gb1,0,none⟩=some (.int .i64 0):=(blk_cell BK1.out 0).trans rfl;have hze_1:wc.cell? ⟨gb1,1,none⟩=some (.slice none 0 0):=(blk_cell BK1.out 1).trans rfl;have hze_2:wc.cell? ⟨gb1,2,none⟩=some (.slice none 0 0):=(blk_cell BK1.out 2).trans rfl;have hze_3:wc.cell? ⟨gb1,3,none⟩=some (.slice none 0 0):=(blk_cell BK1.out 3).trans rfl;have hfe_0:=blk_frozen BK1.out 0;have hfe_1:=blk_frozen BK1.out 1;have hfe_2:=blk_frozen BK1.out 2;have hfe_3:=blk_frozen BK1.out 3;go_cut [6] (fun v6 wx=>∃ (q:Int × List ByteArray) (A:Option Addr) (c:Nat),v6 = .slice A q.2.length c∧Aside0 (spec_GoalRead.pick ws=some q)∧Aside0 (q.2.length≤c)∧Aside0 (Kd.C Kd.string wx A q.2.length q.2)∧Aside0 (wx.heap[gb1]?=some (.cells #[.int .i64 0,.slice none 0 0,.slice none 0 0,.slice none 0 0] 24 (0,0)))∧Aside0 (wx.heap[gb2]?=some (.cells #[.int .i64 q.1,.slice none 0 0,.slice none 0 0,.slice none 0 0] 24 (0,0)))∧Aside0 (Below w.heap.size w wx))
   case first=>
    by_cases hp3:ws.length=3∧(ws.getD 1 ByteArray.empty).data.toList=[61]
    ·rw [show decide (ws.length=3∧(ws.getD 1 ByteArray.empty).data.toList=[61])=true from decide_eq_true hp3]
     obtain ⟨s0,hs0⟩:∃ s,s=ws.getD 0 ByteArray.empty:=⟨_,rfl⟩;have hx0:wc.cell? ⟨gw,0,none⟩=some (.string s0):=qz71;have HS0:=Aside0.mk hs0;clear hs0;have hl0:(0<ws.length)=True:=eq_true (by omega);have hi0:(0<(ws.length:Int))=True:=eq_true (by omega);have hj0:(0:Int)<(ws.length:Int):=by omega
     obtain ⟨s2,hs2⟩:∃ s,s=ws.getD 2 ByteArray.empty:=⟨_,rfl⟩;have hx2:wc.cell? ⟨gw,2,none⟩=some (.string s2):=qz70;have HS2:=Aside0.mk hs2;clear hs2;have hl2:(2<ws.length)=True:=eq_true (by omega);have hi2:(2<(ws.length:Int))=True:=eq_true (by omega);have hj2:(2:Int)<(ws.length:Int):=by omega
     have hnw:gw≠gb2:=fun e_=>absurd (e_ ▸ rfl:some gb2=some gw) (Kd.R_ne HO.out BK2.out (by decide))
     have hpk:spec_GoalRead.pick ws=some (2,[ws.getD 0 ByteArray.empty,ws.getD 2 ByteArray.empty]):=by unfold spec_GoalRead.pick;rw [if_pos hp3.1,if_pos hp3.2]
     have HQ:=Aside0.mk hpk;clear hpk hp3;go_upto_region 8 with (fail)
     go_region
     go_wp2;go_meet
     case rel=>
      refine ⟨(2,[ws.getD 0 ByteArray.empty,ws.getD 2 ByteArray.empty]),_,2,rfl,HQ,⟨?_⟩,⟨?_⟩,⟨?_⟩,⟨?_⟩,⟨?_⟩⟩
      ·exact Nat.le_refl _
      ·exact Kd.C_drew (spec_GoalRead.lit2 _ _ _ [ws.getD 0 ByteArray.empty,ws.getD 2 ByteArray.empty] _ (by simp) (by rw [HS0.out,HS2.out];rfl) (Nat.le_of_ble_eq_true rfl))
      ·exact (blkp (blk_far BK1.out N12.out _))
      ·exact (blkp (blk_put (cs:=#[.int .i64 1,.slice none 0 0,.slice none 0 0,.slice none 0 0]) BK2.out 0 _ rfl))
      ·exact qz14
    rw [show decide (ws.length=3∧(ws.getD 1 ByteArray.empty).data.toList=[61])=false from decide_eq_false hp3];go_upto_region 9 with (fail)
    go_cut [42] (fun v42 wx=>v42 = .bool (decide (ws.length=3∧(ws.getD 1 ByteArray.empty).data.toList=[60]))∧wx=wc)
    case first=>
     clear hzd_0 hfd_0 hze_0 hfe_0 hzd_1 hfd_1 hze_1 hfe_1 hzd_2 hfd_2 hze_2 hfe_2 hzd_3 hfd_3 hze_3 hfe_3;by_cases h3:ws.length=3
     ·have c3:((ws.length:Int) == 3)=true:=beq_iff_eq.2 (by omega)
      obtain ⟨s1,hs1⟩:∃ s,s=ws.getD 1 ByteArray.empty:=⟨_,rfl⟩;have hx1:wc.cell? ⟨gw,1,none⟩=some (.string s1):=by rw [hs1];exact (Kd.R_cell (d:=ByteArray.empty) HO.out 1 (by omega) (by omega)).1
      have HS1:=Aside0.mk hs1;clear hs1;have hl1:(1<ws.length)=True:=eq_true (by omega);have hi1:(1<(ws.length:Int))=True:=eq_true (by omega);have hj1:(1:Int)<(ws.length:Int):=by omega
      have H3:=Aside0.mk h3;clear h3;go_wp2;go_meet
      case rel=>exact ⟨congrArg Value.bool (by rw [← HS1.out,Lib.toList_data];simp [H3.out,Bool.beq_eq_decide_eq]),rfl⟩
     ·have c3:((ws.length:Int) == 3)=false:=beq_eq_false_iff_ne.2 (by omega)
      go_wp2;go_meet
      case rel=>exact ⟨congrArg Value.bool (by simp [h3]),rfl⟩
    case rest=>
     obtain ⟨rfl,rfl⟩:=hcut;go_upto_if 42 with (fail)
     by_cases hp4:ws.length=3∧(ws.getD 1 ByteArray.empty).data.toList=[60]
     ·rw [show decide (ws.length=3∧(ws.getD 1 ByteArray.empty).data.toList=[60])=true from decide_eq_true hp4]
      obtain ⟨s0,hs0⟩:∃ s,s=ws.getD 0 ByteArray.empty:=⟨_,rfl⟩;have hx0:wc.cell? ⟨gw,0,none⟩=some (.string s0):=qz71;have HS0:=Aside0.mk hs0;clear hs0;have hl0:(0<ws.length)=True:=eq_true (by omega);have hi0:(0<(ws.length:Int))=True:=eq_true (by omega);have hj0:(0:Int)<(ws.length:Int):=by omega
      obtain ⟨s2,hs2⟩:∃ s,s=ws.getD 2 ByteArray.empty:=⟨_,rfl⟩;have hx2:wc.cell? ⟨gw,2,none⟩=some (.string s2):=qz70;have HS2:=Aside0.mk hs2;clear hs2;have hl2:(2<ws.length)=True:=eq_true (by omega);have hi2:(2<(ws.length:Int))=True:=eq_true (by omega);have hj2:(2:Int)<(ws.length:Int):=by omega
      have hnw:gw≠gb2:=fun e_=>absurd (e_ ▸ rfl:some gb2=some gw) (Kd.R_ne HO.out BK2.out (by decide))
      have hpk:spec_GoalRead.pick ws=some (4,[ws.getD 0 ByteArray.empty,ws.getD 2 ByteArray.empty]):=by unfold spec_GoalRead.pick;rw [if_pos hp4.1,if_neg (fun e_=>hp3 ⟨hp4.1,e_⟩),if_pos hp4.2]
      have HQ:=Aside0.mk hpk;clear hpk hp3 hp4;go_upto_region 11 with (fail)
      go_region
      go_wp2;go_meet
      case rel=>
       refine ⟨(4,[ws.getD 0 ByteArray.empty,ws.getD 2 ByteArray.empty]),_,2,rfl,HQ,⟨?_⟩,⟨?_⟩,⟨?_⟩,⟨?_⟩,⟨?_⟩⟩
       ·exact Nat.le_refl _
       ·exact Kd.C_drew (spec_GoalRead.lit2 _ _ _ [ws.getD 0 ByteArray.empty,ws.getD 2 ByteArray.empty] _ (by simp) (by rw [HS0.out,HS2.out];rfl) (Nat.le_of_ble_eq_true rfl))
       ·exact (blkp (blk_far BK1.out N12.out _))
       ·exact (blkp (blk_put (cs:=#[.int .i64 1,.slice none 0 0,.slice none 0 0,.slice none 0 0]) BK2.out 0 _ rfl))
       ·exact qz14
     rw [show decide (ws.length=3∧(ws.getD 1 ByteArray.empty).data.toList=[60])=false from decide_eq_false hp4];go_upto_region 12 with (fail)
     go_cut [65] (fun v65 wx=>v65 = .bool (decide (ws.length=5∧((ws.getD 1 ByteArray.empty).data.toList=[43]∧(ws.getD 3 ByteArray.empty).data.toList=[61])))∧wx=wc)
     case first=>
      clear hzd_0 hfd_0 hze_0 hfe_0 hzd_1 hfd_1 hze_1 hfe_1 hzd_2 hfd_2 hze_2 hfe_2 hzd_3 hfd_3 hze_3 hfe_3;by_cases h5:ws.length=5
      ·have c5:((ws.length:Int) == 5)=true:=beq_iff_eq.2 (by omega)
       obtain ⟨s1,hs1⟩:∃ s,s=ws.getD 1 ByteArray.empty:=⟨_,rfl⟩;have hx1:wc.cell? ⟨gw,1,none⟩=some (.string s1):=by rw [hs1];exact (Kd.R_cell (d:=ByteArray.empty) HO.out 1 (by omega) (by omega)).1
       have HS1:=Aside0.mk hs1;clear hs1;have hl1:(1<ws.length)=True:=eq_true (by omega);have hi1:(1<(ws.length:Int))=True:=eq_true (by omega);have hj1:(1:Int)<(ws.length:Int):=by omega
       obtain ⟨s3,hs3⟩:∃ s,s=ws.getD 3 ByteArray.empty:=⟨_,rfl⟩;have hx3:wc.cell? ⟨gw,3,none⟩=some (.string s3):=by rw [hs3];exact (Kd.R_cell (d:=ByteArray.empty) HO.out 3 (by omega) (by omega)).1
       have HS3:=Aside0.mk hs3;clear hs3;have hl3:(3<ws.length)=True:=eq_true (by omega);have hi3:(3<(ws.length:Int))=True:=eq_true (by omega);have hj3:(3:Int)<(ws.length:Int):=by omega
       by_cases ho1:(s1).data.toList=[43]
       ·have o1:(s1.toList == ([43]:List UInt8))=true:=by rw [Lib.toList_data];exact beq_iff_eq.2 ho1
        have H5:=Aside0.mk h5;have H1:=Aside0.mk ho1;clear h5 ho1;go_wp2;go_meet
        case rel=>exact ⟨congrArg Value.bool (by rw [← HS1.out,← HS3.out,Lib.toList_data];simp [H5.out,H1.out,Bool.beq_eq_decide_eq]),rfl⟩
       ·have o1:(s1.toList == ([43]:List UInt8))=false:=by rw [Lib.toList_data];exact beq_eq_false_iff_ne.2 ho1
        have H5:=Aside0.mk h5;have H1:=Aside0.mk ho1;clear h5 ho1;go_wp2;go_meet
        case rel=>exact ⟨congrArg Value.bool (by rw [← HS1.out];simp [H1.out]),rfl⟩
      ·have c5:((ws.length:Int) == 5)=false:=beq_eq_false_iff_ne.2 (by omega)
       go_wp2;go_meet
       case rel=>exact ⟨congrArg Value.bool (by simp [h5]),rfl⟩
     case rest=>
      obtain ⟨rfl,rfl⟩:=hcut;go_upto_if 65 with (fail)
      by_cases hp5:ws.length=5∧((ws.getD 1 ByteArray.empty).data.toList=[43]∧(ws.getD 3 ByteArray.empty).data.toList=[61])
      ·rw [show decide (ws.length=5∧((ws.getD 1 ByteArray.empty).data.toList=[43]∧(ws.getD 3 ByteArray.empty).data.toList=[61]))=true from decide_eq_true hp5]
       obtain ⟨s0,hs0⟩:∃ s,s=ws.getD 0 ByteArray.empty:=⟨_,rfl⟩;have hx0:wc.cell? ⟨gw,0,none⟩=some (.string s0):=qz71;have HS0:=Aside0.mk hs0;clear hs0;have hl0:(0<ws.length)=True:=eq_true (by omega);have hi0:(0<(ws.length:Int))=True:=eq_true (by omega);have hj0:(0:Int)<(ws.length:Int):=by omega
       obtain ⟨s2,hs2⟩:∃ s,s=ws.getD 2 ByteArray.empty:=⟨_,rfl⟩;have hx2:wc.cell? ⟨gw,2,none⟩=some (.string s2):=qz70;have HS2:=Aside0.mk hs2;clear hs2;have hl2:(2<ws.length)=True:=eq_true (by omega);have hi2:(2<(ws.length:Int))=True:=eq_true (by omega);have hj2:(2:Int)<(ws.length:Int):=by omega
       obtain ⟨s4,hs4⟩:∃ s,s=ws.getD 4 ByteArray.empty:=⟨_,rfl⟩;have hx4:wc.cell? ⟨gw,4,none⟩=some (.string s4):=by rw [hs4];exact (Kd.R_cell (d:=ByteArray.empty) HO.out 4 (by omega) (by omega)).1
       have HS4:=Aside0.mk hs4;clear hs4;have hl4:(4<ws.length)=True:=eq_true (by omega);have hi4:(4<(ws.length:Int))=True:=eq_true (by omega);have hj4:(4:Int)<(ws.length:Int):=by omega
       have hnw:gw≠gb2:=fun e_=>absurd (e_ ▸ rfl:some gb2=some gw) (Kd.R_ne HO.out BK2.out (by decide))
       have hpk:spec_GoalRead.pick ws=some (5,[ws.getD 0 ByteArray.empty,ws.getD 2 ByteArray.empty,ws.getD 4 ByteArray.empty]):=by unfold spec_GoalRead.pick;rw [if_neg (by omega),if_pos hp5.1,if_pos hp5.2]
       have HQ:=Aside0.mk hpk;clear hpk hp3 hp4 hp5;go_upto_region 14 with (fail)
       go_region
       go_wp2;go_meet
       case rel=>
        refine ⟨(5,[ws.getD 0 ByteArray.empty,ws.getD 2 ByteArray.empty,ws.getD 4 ByteArray.empty]),_,3,rfl,HQ,⟨?_⟩,⟨?_⟩,⟨?_⟩,⟨?_⟩,⟨?_⟩⟩
        ·exact Nat.le_refl _
        ·exact Kd.C_drew (spec_GoalRead.lit2 _ _ _ [ws.getD 0 ByteArray.empty,ws.getD 2 ByteArray.empty,ws.getD 4 ByteArray.empty] _ (by simp) (by rw [HS0.out,HS2.out,HS4.out];rfl) (Nat.le_of_ble_eq_true rfl))
        ·exact (blkp (blk_far BK1.out N12.out _))
        ·exact (blkp (blk_put (cs:=#[.int .i64 1,.slice none 0 0,.slice none 0 0,.slice none 0 0]) BK2.out 0 _ rfl))
        ·exact qz14
      rw [show decide (ws.length=5∧((ws.getD 1 ByteArray.empty).data.toList=[43]∧(ws.getD 3 ByteArray.empty).data.toList=[61]))=false from decide_eq_false hp5];by_cases h1:ws.length=1
      ·have c7:((ws.length:Int) != 1)=false:=bne_eq_false_iff_eq.2 (by omega)
       have hpk:spec_GoalRead.pick ws=some (1,[ws.getD 0 ByteArray.empty]):=by unfold spec_GoalRead.pick;rw [if_neg (by omega),if_neg (by omega),if_pos h1]
       have HQ:=Aside0.mk hpk;clear hpk h1 hp3 hp4 hp5;go_wp2;go_meet
       case rel=>
        refine ⟨(1,[ws.getD 0 ByteArray.empty]),_,cw,rfl,HQ,⟨Nat.le_trans HL.out HCW.out⟩,⟨spec_GoalRead.one (Kd.R_reads' HO.out).2.2 HL.out⟩,BK1,BK2,HB⟩
      ·have c7:((ws.length:Int) != 1)=true:=bne_iff_ne.2 (by omega)
       have hpk:spec_GoalRead.pick ws=none:=by
        unfold spec_GoalRead.pick;by_cases h3:ws.length=3
        ·rw [if_pos h3,if_neg (fun e_=>hp3 ⟨h3,e_⟩),if_neg (fun e_=>hp4 ⟨h3,e_⟩)]
        ·by_cases h5:ws.length=5
         ·rw [if_neg h3,if_pos h5,if_neg (fun e_=>hp5 ⟨h5,e_⟩)]
         ·rw [if_neg h3,if_neg h5,if_neg h1]
       have h:=HH.out;rw [hpk] at h;simp only [Option.some.injEq,Prod.mk.injEq] at h;obtain ⟨rfl,rfl,rfl,rfl,rfl⟩:=h;clear HH hpk hp3 hp4 hp5 h1;go_wp2;refine bodyPost_ret (results_ct rfl _ _ gb1 24 #[.int .i64 0,.slice none 0 0,.slice none 0 0,.slice none 0 0] (0,0) _ rfl (blkp (blk_put4 BK1.out)) hu rfl (by kernel_rfl)) rfl ?_;exact ⟨_,_,_,rfl,Kd.R_nil _ _ _ _ _,Kd.R_nil _ _ _ _ _,Kd.R_nil _ _ _ _ _,qz14⟩
   case rest=>
    obtain ⟨q,A,c,rfl,HQ,HQC,HC,BK1,BK2,HB⟩:=hcut
    obtain ⟨⟨t1,t2⟩,ht,h2⟩:∃ t,spec_l3Read.f k q.2=some t∧(if t.2=true then (if t.1.length=q.2.length then (spec_GoalOk.f k q.1 (t.1.getD 0 []) (t.1.getD 1 []) (t.1.getD 2 [])).bind fun g=>if g=true then some (q.1,t.1.getD 0 [],t.1.getD 1 [],t.1.getD 2 [],true) else some (0,[],[],[],false) else none) else some (0,[],[],[],false))=some (r1,r2,r3,r4,r5):=by
     have h:=HH.out;rw [HQ.out] at h;exact Option.bind_eq_some_iff.1 h
    clear HH;have HLQ:=Aside0.mk (spec_GoalRead.pick_len HQ.out);have hn12:=N12.out;have hn21:=Ne.symm N12.out;cases t2 with
    | false=>
     have HT:=Aside0.mk ht;simp only [Bool.false_eq_true,if_false,Option.some.injEq,Prod.mk.injEq] at h2;obtain ⟨rfl,rfl,rfl,rfl,rfl⟩:=h2;clear ht
     go_wp2_with ((go_at_call 25;(with_reducible refine (spec_l3Read.calls k A c q.2 t1 false _ HC.out HQC.out HT.out).mono ?_);rintro e w8 ⟨v8,rfl,ho0,hb⟩;have n_:=as2 (blk_below (g:=gb1) (o:=.cells #[.int .i64 0,.slice none 0 0,.slice none 0 0,.slice none 0 0] 24 (0,0)) BK1.out hb) (below_step HB.out hb);clear BK1 HB;obtain ⟨BK1,HB⟩:=n_;clear ho0 hb;have hzf_0:w8.cell? ⟨gb1,0,none⟩=some (.int .i64 0):=(blk_cell BK1.out 0).trans rfl;have hzf_1:w8.cell? ⟨gb1,1,none⟩=some (.slice none 0 0):=(blk_cell BK1.out 1).trans rfl;have hzf_2:w8.cell? ⟨gb1,2,none⟩=some (.slice none 0 0):=(blk_cell BK1.out 2).trans rfl;have hzf_3:w8.cell? ⟨gb1,3,none⟩=some (.slice none 0 0):=(blk_cell BK1.out 3).trans rfl;have hff_0:=blk_frozen BK1.out 0;have hff_1:=blk_frozen BK1.out 1;have hff_2:=blk_frozen BK1.out 2;have hff_3:=blk_frozen BK1.out 3))
     refine bodyPost_ret (results_ct rfl _ _ gb1 24 #[.int .i64 0,.slice none 0 0,.slice none 0 0,.slice none 0 0] (0,0) _ rfl (blkp (blk_put4 BK1.out)) hu rfl (by kernel_rfl)) rfl ?_;exact ⟨_,_,_,rfl,Kd.R_nil _ _ _ _ _,Kd.R_nil _ _ _ _ _,Kd.R_nil _ _ _ _ _,qz14⟩
    | true=>
     simp only [if_true] at h2;by_cases hl:t1.length=q.2.length
     case neg=>rw [if_neg hl] at h2;cases h2
     rw [if_pos hl] at h2;obtain ⟨g,hg,h3⟩:=Option.bind_eq_some_iff.1 h2;clear h2;have hlq:=HLQ.out;clear HLQ;rcases hlq with hq|hq|hq
     ·obtain ⟨x0,rfl⟩:=spec_GoalRead.l1 (hl.trans hq)
      clear hl hq;have hg2:spec_GoalOk.f k q.1 x0 [] []=some g:=hg;have h4:(if g=true then some (q.1,x0,[],[],true) else some (0,[],[],[],false))=some (r1,r2,r3,r4,r5):=h3;have HT:=Aside0.mk ht;have HG:=Aside0.mk hg2;clear ht hg h3 hg2;go_upto_region 25 with ((go_at_call 25;(with_reducible refine (spec_l3Read.calls k A c q.2 [x0] true _ HC.out HQC.out HT.out).mono ?_);rintro e w8 ⟨v8,rfl,ho0,hb⟩;obtain ⟨f_,inner_,hown,hel⟩:=Kd.S_rows ho0;obtain ⟨gt,ct,rfl,hgt,hct,hcell,cells_,hkt⟩:=Kd.own_cells (n:=1) hown (by decide);obtain ⟨u0,hu0,hR0⟩:=hel 0 x0 rfl;obtain ⟨A0,c0,rfl⟩:=Kd.R_slice hR0;have hcl0:=hcell 0 _ hu0;have HR0:=Aside0.mk (Kd.R_lower hR0 (below_size HB.out));have n0_:=Aside0.mk (blk_below (g:=gb1) (o:=.cells #[.int .i64 0,.slice none 0 0,.slice none 0 0,.slice none 0 0] 24 (0,0)) BK1.out hb);have n1_:=Aside0.mk (blk_below (g:=gb2) (o:=.cells #[.int .i64 q.1,.slice none 0 0,.slice none 0 0,.slice none 0 0] 24 (0,0)) BK2.out hb);have n2_:=Aside0.mk (below_step HB.out hb);clear BK1 BK2 HB;have BK1:=n0_;have BK2:=n1_;have HB:=n2_;have hnt:gt≠gb2:=blk_ne hkt BK2.out (by decide);clear n0_ n1_ n2_ ho0 hb hown hel hcell hkt hgt hct hu0 hR0;have hzg_0:w8.cell? ⟨gb2,0,none⟩=some (.int .i64 q.1):=(blk_cell BK2.out 0).trans rfl;have hzg_1:w8.cell? ⟨gb2,1,none⟩=some (.slice none 0 0):=(blk_cell BK2.out 1).trans rfl;have hzg_2:w8.cell? ⟨gb2,2,none⟩=some (.slice none 0 0):=(blk_cell BK2.out 2).trans rfl;have hzg_3:w8.cell? ⟨gb2,3,none⟩=some (.slice none 0 0):=(blk_cell BK2.out 3).trans rfl;have hfg_0:=blk_frozen BK2.out 0;have hfg_1:=blk_frozen BK2.out 1;have hfg_2:=blk_frozen BK2.out 2;have hfg_3:=blk_frozen BK2.out 3))
      cases g with
      | false=>
       simp only [Bool.false_eq_true,if_false,Option.some.injEq,Prod.mk.injEq] at h4;obtain ⟨rfl,rfl,rfl,rfl,rfl⟩:=h4
       go_wp2_with ((go_at_call 17;(with_reducible refine (spec_GoalRead.ok1 k q.1 _ _ x0 false _ ?s1 ?s2 HG.out).mono ?_);(case s1=>exact (Kd.R_reads' (Kd.R_put1 HR0.out BK2.out)).2.2);(case s2=>exact (Kd.R_reads' HR0.out).2.1);rintro e w10 ⟨rfl,hb⟩;have n0_:=Aside0.mk (blk_below (blkp (blk_far BK1.out N12.out _)) hb);have n1_:=Aside0.mk (blk_below (blkp (blk_put (cs:=#[.int .i64 q.1,.slice none 0 0,.slice none 0 0,.slice none 0 0]) BK2.out 1 _ rfl)) hb);have n2_:=Aside0.mk (below_step qz14 hb);have m0_:=Aside0.mk (Kd.R_below (Kd.R_put1 HR0.out BK2.out) hb);clear HR0;have HR0:=m0_;clear BK1 BK2 HB;have BK1:=n0_;have BK2:=n1_;have HB:=n2_;clear n0_ n1_ n2_ m0_ hb;have hzh_0:w10.cell? ⟨gb1,0,none⟩=some (.int .i64 0):=(blk_cell BK1.out 0).trans rfl;have hzh_1:w10.cell? ⟨gb1,1,none⟩=some (.slice none 0 0):=(blk_cell BK1.out 1).trans rfl;have hzh_2:w10.cell? ⟨gb1,2,none⟩=some (.slice none 0 0):=(blk_cell BK1.out 2).trans rfl;have hzh_3:w10.cell? ⟨gb1,3,none⟩=some (.slice none 0 0):=(blk_cell BK1.out 3).trans rfl;have hfh_0:=blk_frozen BK1.out 0;have hfh_1:=blk_frozen BK1.out 1;have hfh_2:=blk_frozen BK1.out 2;have hfh_3:=blk_frozen BK1.out 3;have hzi_0:w10.cell? ⟨gb2,0,none⟩=some (.int .i64 q.1):=(blk_cell BK2.out 0).trans rfl;have hzi_1:w10.cell? ⟨gb2,1,none⟩=some (.slice A0 x0.length c0):=(blk_cell BK2.out 1).trans rfl;have hzi_2:w10.cell? ⟨gb2,2,none⟩=some (.slice none 0 0):=(blk_cell BK2.out 2).trans rfl;have hzi_3:w10.cell? ⟨gb2,3,none⟩=some (.slice none 0 0):=(blk_cell BK2.out 3).trans rfl;have hfi_0:=blk_frozen BK2.out 0;have hfi_1:=blk_frozen BK2.out 1;have hfi_2:=blk_frozen BK2.out 2;have hfi_3:=blk_frozen BK2.out 3))
       refine bodyPost_ret (results_ct rfl _ _ gb1 24 #[.int .i64 0,.slice none 0 0,.slice none 0 0,.slice none 0 0] (0,0) _ rfl (blkp (blk_put4 BK1.out)) hu rfl (by kernel_rfl)) rfl ?_;exact ⟨_,_,_,rfl,Kd.R_nil _ _ _ _ _,Kd.R_nil _ _ _ _ _,Kd.R_nil _ _ _ _ _,qz14⟩
      | true=>
       simp only [if_true,Option.some.injEq,Prod.mk.injEq] at h4;obtain ⟨rfl,rfl,rfl,rfl,rfl⟩:=h4
       go_wp2_with ((go_at_call 17;(with_reducible refine (spec_GoalRead.ok1 k q.1 _ _ x0 true _ ?s1 ?s2 HG.out).mono ?_);(case s1=>exact (Kd.R_reads' (Kd.R_put1 HR0.out BK2.out)).2.2);(case s2=>exact (Kd.R_reads' HR0.out).2.1);rintro e w10 ⟨rfl,hb⟩;have n0_:=Aside0.mk (blk_below (blkp (blk_far BK1.out N12.out _)) hb);have n1_:=Aside0.mk (blk_below (blkp (blk_put (cs:=#[.int .i64 q.1,.slice none 0 0,.slice none 0 0,.slice none 0 0]) BK2.out 1 _ rfl)) hb);have n2_:=Aside0.mk (below_step qz14 hb);have m0_:=Aside0.mk (Kd.R_below (Kd.R_put1 HR0.out BK2.out) hb);clear HR0;have HR0:=m0_;clear BK1 BK2 HB;have BK1:=n0_;have BK2:=n1_;have HB:=n2_;clear n0_ n1_ n2_ m0_ hb;have hzh_0:w10.cell? ⟨gb1,0,none⟩=some (.int .i64 0):=(blk_cell BK1.out 0).trans rfl;have hzh_1:w10.cell? ⟨gb1,1,none⟩=some (.slice none 0 0):=(blk_cell BK1.out 1).trans rfl;have hzh_2:w10.cell? ⟨gb1,2,none⟩=some (.slice none 0 0):=(blk_cell BK1.out 2).trans rfl;have hzh_3:w10.cell? ⟨gb1,3,none⟩=some (.slice none 0 0):=(blk_cell BK1.out 3).trans rfl;have hfh_0:=blk_frozen BK1.out 0;have hfh_1:=blk_frozen BK1.out 1;have hfh_2:=blk_frozen BK1.out 2;have hfh_3:=blk_frozen BK1.out 3;have hzi_0:w10.cell? ⟨gb2,0,none⟩=some (.int .i64 q.1):=(blk_cell BK2.out 0).trans rfl;have hzi_1:w10.cell? ⟨gb2,1,none⟩=some (.slice A0 x0.length c0):=(blk_cell BK2.out 1).trans rfl;have hzi_2:w10.cell? ⟨gb2,2,none⟩=some (.slice none 0 0):=(blk_cell BK2.out 2).trans rfl;have hzi_3:w10.cell? ⟨gb2,3,none⟩=some (.slice none 0 0):=(blk_cell BK2.out 3).trans rfl;have hfi_0:=blk_frozen BK2.out 0;have hfi_1:=blk_frozen BK2.out 1;have hfi_2:=blk_frozen BK2.out 2;have hfi_3:=blk_frozen BK2.out 3))
       refine bodyPost_ret (results_ct rfl _ _ gb1 24 #[.int .i64 q.1,.slice A0 x0.length c0,.slice none 0 0,.slice none 0 0] (0,0) _ rfl (blkp (blk_put4 BK1.out)) hu rfl (by kernel_rfl)) rfl ?_;exact ⟨_,_,_,rfl,(Kd.R_mono (Kd.R_put4 HR0.out BK1.out) (fun k_ hk=>⟨(by simp [Value.ownBlock]),(by simp [Value.ownBlock])⟩)),Kd.R_nil _ _ _ _ _,Kd.R_nil _ _ _ _ _,qz14⟩
     ·obtain ⟨x0,x1,rfl⟩:=spec_GoalRead.l2 (hl.trans hq)
      clear hl hq;have hg2:spec_GoalOk.f k q.1 x0 x1 []=some g:=hg;have h4:(if g=true then some (q.1,x0,x1,[],true) else some (0,[],[],[],false))=some (r1,r2,r3,r4,r5):=h3;have HT:=Aside0.mk ht;have HG:=Aside0.mk hg2;clear ht hg h3 hg2;go_upto_region 25 with ((go_at_call 25;(with_reducible refine (spec_l3Read.calls k A c q.2 [x0,x1] true _ HC.out HQC.out HT.out).mono ?_);rintro e w8 ⟨v8,rfl,ho0,hb⟩;obtain ⟨f_,inner_,hown,hel⟩:=Kd.S_rows ho0;obtain ⟨gt,ct,rfl,hgt,hct,hcell,cells_,hkt⟩:=Kd.own_cells (n:=2) hown (by decide);obtain ⟨u0,hu0,hR0⟩:=hel 0 x0 rfl;obtain ⟨A0,c0,rfl⟩:=Kd.R_slice hR0;have hcl0:=hcell 0 _ hu0;have HR0:=Aside0.mk (Kd.R_lower hR0 (below_size HB.out));obtain ⟨u1,hu1,hR1⟩:=hel 1 x1 rfl;obtain ⟨A1,c1,rfl⟩:=Kd.R_slice hR1;have hcl1:=hcell 1 _ hu1;have HR1:=Aside0.mk (Kd.R_lower hR1 (below_size HB.out));have n0_:=Aside0.mk (blk_below (g:=gb1) (o:=.cells #[.int .i64 0,.slice none 0 0,.slice none 0 0,.slice none 0 0] 24 (0,0)) BK1.out hb);have n1_:=Aside0.mk (blk_below (g:=gb2) (o:=.cells #[.int .i64 q.1,.slice none 0 0,.slice none 0 0,.slice none 0 0] 24 (0,0)) BK2.out hb);have n2_:=Aside0.mk (below_step HB.out hb);clear BK1 BK2 HB;have BK1:=n0_;have BK2:=n1_;have HB:=n2_;have hnt:gt≠gb2:=blk_ne hkt BK2.out (by decide);have AP01:=Aside0.mk (Kd.apart_rows hR0 hR1 (by decide));have AP10:=Aside0.mk (Kd.apart_rows hR1 hR0 (by decide));clear n0_ n1_ n2_ ho0 hb hown hel hcell hkt hgt hct hu0 hR0 hu1 hR1;have hzg_0:w8.cell? ⟨gb2,0,none⟩=some (.int .i64 q.1):=(blk_cell BK2.out 0).trans rfl;have hzg_1:w8.cell? ⟨gb2,1,none⟩=some (.slice none 0 0):=(blk_cell BK2.out 1).trans rfl;have hzg_2:w8.cell? ⟨gb2,2,none⟩=some (.slice none 0 0):=(blk_cell BK2.out 2).trans rfl;have hzg_3:w8.cell? ⟨gb2,3,none⟩=some (.slice none 0 0):=(blk_cell BK2.out 3).trans rfl;have hfg_0:=blk_frozen BK2.out 0;have hfg_1:=blk_frozen BK2.out 1;have hfg_2:=blk_frozen BK2.out 2;have hfg_3:=blk_frozen BK2.out 3))
      cases g with
      | false=>
       simp only [Bool.false_eq_true,if_false,Option.some.injEq,Prod.mk.injEq] at h4;obtain ⟨rfl,rfl,rfl,rfl,rfl⟩:=h4
       go_wp2_with ((go_at_call 17;(with_reducible refine (spec_GoalRead.ok2 k q.1 _ _ x0 _ _ x1 false _ ?s1 ?s2 ?s3 ?s4 HG.out).mono ?_);(case s1=>exact (Kd.R_reads' (Kd.R_put2 HR0.out BK2.out)).2.2);(case s2=>exact (Kd.R_reads' HR0.out).2.1);(case s3=>exact (Kd.R_reads' (Kd.R_put2 HR1.out BK2.out)).2.2);(case s4=>exact (Kd.R_reads' HR1.out).2.1);rintro e w10 ⟨rfl,hb⟩;have n0_:=Aside0.mk (blk_below (blkp (blk_far2 N12.out BK1.out)) hb);have n1_:=Aside0.mk (blk_below (blkp (blk_put (cs:=#[.int .i64 q.1,.slice A0 x0.length c0,.slice none 0 0,.slice none 0 0]) (blk_put (cs:=#[.int .i64 q.1,.slice none 0 0,.slice none 0 0,.slice none 0 0]) BK2.out 1 _ rfl) 2 _ rfl)) hb);have n2_:=Aside0.mk (below_step qz14 hb);have m0_:=Aside0.mk (Kd.R_below (Kd.R_put2 HR0.out BK2.out) hb);have m1_:=Aside0.mk (Kd.R_below (Kd.R_put2 HR1.out BK2.out) hb);clear HR0;have HR0:=m0_;clear HR1;have HR1:=m1_;clear BK1 BK2 HB;have BK1:=n0_;have BK2:=n1_;have HB:=n2_;clear n0_ n1_ n2_ m0_ m1_ hb;have hzh_0:w10.cell? ⟨gb1,0,none⟩=some (.int .i64 0):=(blk_cell BK1.out 0).trans rfl;have hzh_1:w10.cell? ⟨gb1,1,none⟩=some (.slice none 0 0):=(blk_cell BK1.out 1).trans rfl;have hzh_2:w10.cell? ⟨gb1,2,none⟩=some (.slice none 0 0):=(blk_cell BK1.out 2).trans rfl;have hzh_3:w10.cell? ⟨gb1,3,none⟩=some (.slice none 0 0):=(blk_cell BK1.out 3).trans rfl;have hfh_0:=blk_frozen BK1.out 0;have hfh_1:=blk_frozen BK1.out 1;have hfh_2:=blk_frozen BK1.out 2;have hfh_3:=blk_frozen BK1.out 3;have hzi_0:w10.cell? ⟨gb2,0,none⟩=some (.int .i64 q.1):=(blk_cell BK2.out 0).trans rfl;have hzi_1:w10.cell? ⟨gb2,1,none⟩=some (.slice A0 x0.length c0):=(blk_cell BK2.out 1).trans rfl;have hzi_2:w10.cell? ⟨gb2,2,none⟩=some (.slice A1 x1.length c1):=(blk_cell BK2.out 2).trans rfl;have hzi_3:w10.cell? ⟨gb2,3,none⟩=some (.slice none 0 0):=(blk_cell BK2.out 3).trans rfl;have hfi_0:=blk_frozen BK2.out 0;have hfi_1:=blk_frozen BK2.out 1;have hfi_2:=blk_frozen BK2.out 2;have hfi_3:=blk_frozen BK2.out 3))
       refine bodyPost_ret (results_ct rfl _ _ gb1 24 #[.int .i64 0,.slice none 0 0,.slice none 0 0,.slice none 0 0] (0,0) _ rfl (blkp (blk_put4 BK1.out)) hu rfl (by kernel_rfl)) rfl ?_;exact ⟨_,_,_,rfl,Kd.R_nil _ _ _ _ _,Kd.R_nil _ _ _ _ _,Kd.R_nil _ _ _ _ _,qz14⟩
      | true=>
       simp only [if_true,Option.some.injEq,Prod.mk.injEq] at h4;obtain ⟨rfl,rfl,rfl,rfl,rfl⟩:=h4
       go_wp2_with ((go_at_call 17;(with_reducible refine (spec_GoalRead.ok2 k q.1 _ _ x0 _ _ x1 true _ ?s1 ?s2 ?s3 ?s4 HG.out).mono ?_);(case s1=>exact (Kd.R_reads' (Kd.R_put2 HR0.out BK2.out)).2.2);(case s2=>exact (Kd.R_reads' HR0.out).2.1);(case s3=>exact (Kd.R_reads' (Kd.R_put2 HR1.out BK2.out)).2.2);(case s4=>exact (Kd.R_reads' HR1.out).2.1);rintro e w10 ⟨rfl,hb⟩;have n0_:=Aside0.mk (blk_below (blkp (blk_far2 N12.out BK1.out)) hb);have n1_:=Aside0.mk (blk_below (blkp (blk_put (cs:=#[.int .i64 q.1,.slice A0 x0.length c0,.slice none 0 0,.slice none 0 0]) (blk_put (cs:=#[.int .i64 q.1,.slice none 0 0,.slice none 0 0,.slice none 0 0]) BK2.out 1 _ rfl) 2 _ rfl)) hb);have n2_:=Aside0.mk (below_step qz14 hb);have m0_:=Aside0.mk (Kd.R_below (Kd.R_put2 HR0.out BK2.out) hb);have m1_:=Aside0.mk (Kd.R_below (Kd.R_put2 HR1.out BK2.out) hb);clear HR0;have HR0:=m0_;clear HR1;have HR1:=m1_;clear BK1 BK2 HB;have BK1:=n0_;have BK2:=n1_;have HB:=n2_;clear n0_ n1_ n2_ m0_ m1_ hb;have hzh_0:w10.cell? ⟨gb1,0,none⟩=some (.int .i64 0):=(blk_cell BK1.out 0).trans rfl;have hzh_1:w10.cell? ⟨gb1,1,none⟩=some (.slice none 0 0):=(blk_cell BK1.out 1).trans rfl;have hzh_2:w10.cell? ⟨gb1,2,none⟩=some (.slice none 0 0):=(blk_cell BK1.out 2).trans rfl;have hzh_3:w10.cell? ⟨gb1,3,none⟩=some (.slice none 0 0):=(blk_cell BK1.out 3).trans rfl;have hfh_0:=blk_frozen BK1.out 0;have hfh_1:=blk_frozen BK1.out 1;have hfh_2:=blk_frozen BK1.out 2;have hfh_3:=blk_frozen BK1.out 3;have hzi_0:w10.cell? ⟨gb2,0,none⟩=some (.int .i64 q.1):=(blk_cell BK2.out 0).trans rfl;have hzi_1:w10.cell? ⟨gb2,1,none⟩=some (.slice A0 x0.length c0):=(blk_cell BK2.out 1).trans rfl;have hzi_2:w10.cell? ⟨gb2,2,none⟩=some (.slice A1 x1.length c1):=(blk_cell BK2.out 2).trans rfl;have hzi_3:w10.cell? ⟨gb2,3,none⟩=some (.slice none 0 0):=(blk_cell BK2.out 3).trans rfl;have hfi_0:=blk_frozen BK2.out 0;have hfi_1:=blk_frozen BK2.out 1;have hfi_2:=blk_frozen BK2.out 2;have hfi_3:=blk_frozen BK2.out 3))
       refine bodyPost_ret (results_ct rfl _ _ gb1 24 #[.int .i64 q.1,.slice A0 x0.length c0,.slice A1 x1.length c1,.slice none 0 0] (0,0) _ rfl (blkp (blk_put4 BK1.out)) hu rfl (by kernel_rfl)) rfl ?_;exact ⟨_,_,_,rfl,(Kd.R_mono (Kd.R_put4 HR0.out BK1.out) (fun k_ hk=>⟨AP01.out k_ hk.1.1,(by simp [Value.ownBlock])⟩)),(Kd.R_mono (Kd.R_put4 HR1.out BK1.out) (fun k_ hk=>⟨AP10.out k_ hk.1.1,(by simp [Value.ownBlock])⟩)),Kd.R_nil _ _ _ _ _,qz14⟩
     ·obtain ⟨x0,x1,x2,rfl⟩:=spec_GoalRead.l3 (hl.trans hq)
      clear hl hq;have hg2:spec_GoalOk.f k q.1 x0 x1 x2=some g:=hg;have h4:(if g=true then some (q.1,x0,x1,x2,true) else some (0,[],[],[],false))=some (r1,r2,r3,r4,r5):=h3;have HT:=Aside0.mk ht;have HG:=Aside0.mk hg2;clear ht hg h3 hg2;go_upto_region 25 with ((go_at_call 25;(with_reducible refine (spec_l3Read.calls k A c q.2 [x0,x1,x2] true _ HC.out HQC.out HT.out).mono ?_);rintro e w8 ⟨v8,rfl,ho0,hb⟩;obtain ⟨f_,inner_,hown,hel⟩:=Kd.S_rows ho0;obtain ⟨gt,ct,rfl,hgt,hct,hcell,cells_,hkt⟩:=Kd.own_cells (n:=3) hown (by decide);obtain ⟨u0,hu0,hR0⟩:=hel 0 x0 rfl;obtain ⟨A0,c0,rfl⟩:=Kd.R_slice hR0;have hcl0:=hcell 0 _ hu0;have HR0:=Aside0.mk (Kd.R_lower hR0 (below_size HB.out));obtain ⟨u1,hu1,hR1⟩:=hel 1 x1 rfl;obtain ⟨A1,c1,rfl⟩:=Kd.R_slice hR1;have hcl1:=hcell 1 _ hu1;have HR1:=Aside0.mk (Kd.R_lower hR1 (below_size HB.out));obtain ⟨u2,hu2,hR2⟩:=hel 2 x2 rfl;obtain ⟨A2,c2,rfl⟩:=Kd.R_slice hR2;have hcl2:=hcell 2 _ hu2;have HR2:=Aside0.mk (Kd.R_lower hR2 (below_size HB.out));have n0_:=Aside0.mk (blk_below (g:=gb1) (o:=.cells #[.int .i64 0,.slice none 0 0,.slice none 0 0,.slice none 0 0] 24 (0,0)) BK1.out hb);have n1_:=Aside0.mk (blk_below (g:=gb2) (o:=.cells #[.int .i64 q.1,.slice none 0 0,.slice none 0 0,.slice none 0 0] 24 (0,0)) BK2.out hb);have n2_:=Aside0.mk (below_step HB.out hb);clear BK1 BK2 HB;have BK1:=n0_;have BK2:=n1_;have HB:=n2_;have hnt:gt≠gb2:=blk_ne hkt BK2.out (by decide);have AP01:=Aside0.mk (Kd.apart_rows hR0 hR1 (by decide));have AP02:=Aside0.mk (Kd.apart_rows hR0 hR2 (by decide));have AP10:=Aside0.mk (Kd.apart_rows hR1 hR0 (by decide));have AP12:=Aside0.mk (Kd.apart_rows hR1 hR2 (by decide));have AP20:=Aside0.mk (Kd.apart_rows hR2 hR0 (by decide));have AP21:=Aside0.mk (Kd.apart_rows hR2 hR1 (by decide));clear n0_ n1_ n2_ ho0 hb hown hel hcell hkt hgt hct hu0 hR0 hu1 hR1 hu2 hR2;have hzg_0:w8.cell? ⟨gb2,0,none⟩=some (.int .i64 q.1):=(blk_cell BK2.out 0).trans rfl;have hzg_1:w8.cell? ⟨gb2,1,none⟩=some (.slice none 0 0):=(blk_cell BK2.out 1).trans rfl;have hzg_2:w8.cell? ⟨gb2,2,none⟩=some (.slice none 0 0):=(blk_cell BK2.out 2).trans rfl;have hzg_3:w8.cell? ⟨gb2,3,none⟩=some (.slice none 0 0):=(blk_cell BK2.out 3).trans rfl;have hfg_0:=blk_frozen BK2.out 0;have hfg_1:=blk_frozen BK2.out 1;have hfg_2:=blk_frozen BK2.out 2;have hfg_3:=blk_frozen BK2.out 3))
      cases g with
      | false=>
       simp only [Bool.false_eq_true,if_false,Option.some.injEq,Prod.mk.injEq] at h4;obtain ⟨rfl,rfl,rfl,rfl,rfl⟩:=h4
       go_wp2_with ((go_at_call 17;(with_reducible refine (spec_GoalOk.calls k q.1 _ _ x0 _ _ x1 _ _ x2 false _ ?s1 ?s2 ?s3 ?s4 ?s5 ?s6 HG.out).mono ?_);(case s1=>exact (Kd.R_reads' (Kd.R_far (p:=⟨gb2,3,none⟩) (Kd.R_put2 HR0.out BK2.out) (fun _ hk=>hk.2) (.slice A2 x2.length c2))).2.2);(case s2=>exact (Kd.R_reads' HR0.out).2.1);(case s3=>exact (Kd.R_reads' (Kd.R_far (p:=⟨gb2,3,none⟩) (Kd.R_put2 HR1.out BK2.out) (fun _ hk=>hk.2) (.slice A2 x2.length c2))).2.2);(case s4=>exact (Kd.R_reads' HR1.out).2.1);(case s5=>exact (Kd.R_reads' (Kd.R_far (p:=⟨gb2,3,none⟩) (Kd.R_put2 HR2.out BK2.out) (fun _ hk=>hk.2) (.slice A2 x2.length c2))).2.2);(case s6=>exact (Kd.R_reads' HR2.out).2.1);rintro e w10 ⟨rfl,hb⟩;have n0_:=Aside0.mk (blk_below (blkp (blk_far (blk_far2 N12.out BK1.out) N12.out _)) hb);have n1_:=Aside0.mk (blk_below (blkp (blk_put (cs:=#[.int .i64 q.1,.slice A0 x0.length c0,.slice A1 x1.length c1,.slice none 0 0]) (blk_put (cs:=#[.int .i64 q.1,.slice A0 x0.length c0,.slice none 0 0,.slice none 0 0]) (blk_put (cs:=#[.int .i64 q.1,.slice none 0 0,.slice none 0 0,.slice none 0 0]) BK2.out 1 _ rfl) 2 _ rfl) 3 _ rfl)) hb);have n2_:=Aside0.mk (below_step qz14 hb);have m0_:=Aside0.mk (Kd.R_below (Kd.R_far (p:=⟨gb2,3,none⟩) (Kd.R_put2 HR0.out BK2.out) (fun _ hk=>hk.2) (.slice A2 x2.length c2)) hb);have m1_:=Aside0.mk (Kd.R_below (Kd.R_far (p:=⟨gb2,3,none⟩) (Kd.R_put2 HR1.out BK2.out) (fun _ hk=>hk.2) (.slice A2 x2.length c2)) hb);have m2_:=Aside0.mk (Kd.R_below (Kd.R_far (p:=⟨gb2,3,none⟩) (Kd.R_put2 HR2.out BK2.out) (fun _ hk=>hk.2) (.slice A2 x2.length c2)) hb);clear HR0;have HR0:=m0_;clear HR1;have HR1:=m1_;clear HR2;have HR2:=m2_;clear BK1 BK2 HB;have BK1:=n0_;have BK2:=n1_;have HB:=n2_;clear n0_ n1_ n2_ m0_ m1_ m2_ hb;have hzh_0:w10.cell? ⟨gb1,0,none⟩=some (.int .i64 0):=(blk_cell BK1.out 0).trans rfl;have hzh_1:w10.cell? ⟨gb1,1,none⟩=some (.slice none 0 0):=(blk_cell BK1.out 1).trans rfl;have hzh_2:w10.cell? ⟨gb1,2,none⟩=some (.slice none 0 0):=(blk_cell BK1.out 2).trans rfl;have hzh_3:w10.cell? ⟨gb1,3,none⟩=some (.slice none 0 0):=(blk_cell BK1.out 3).trans rfl;have hfh_0:=blk_frozen BK1.out 0;have hfh_1:=blk_frozen BK1.out 1;have hfh_2:=blk_frozen BK1.out 2;have hfh_3:=blk_frozen BK1.out 3;have hzi_0:w10.cell? ⟨gb2,0,none⟩=some (.int .i64 q.1):=(blk_cell BK2.out 0).trans rfl;have hzi_1:w10.cell? ⟨gb2,1,none⟩=some (.slice A0 x0.length c0):=(blk_cell BK2.out 1).trans rfl;have hzi_2:w10.cell? ⟨gb2,2,none⟩=some (.slice A1 x1.length c1):=(blk_cell BK2.out 2).trans rfl;have hzi_3:w10.cell? ⟨gb2,3,none⟩=some (.slice A2 x2.length c2):=(blk_cell BK2.out 3).trans rfl;have hfi_0:=blk_frozen BK2.out 0;have hfi_1:=blk_frozen BK2.out 1;have hfi_2:=blk_frozen BK2.out 2;have hfi_3:=blk_frozen BK2.out 3))
       refine bodyPost_ret (results_ct rfl _ _ gb1 24 #[.int .i64 0,.slice none 0 0,.slice none 0 0,.slice none 0 0] (0,0) _ rfl (blkp (blk_put4 BK1.out)) hu rfl (by kernel_rfl)) rfl ?_;exact ⟨_,_,_,rfl,Kd.R_nil _ _ _ _ _,Kd.R_nil _ _ _ _ _,Kd.R_nil _ _ _ _ _,qz14⟩
      | true=>
       simp only [if_true,Option.some.injEq,Prod.mk.injEq] at h4;obtain ⟨rfl,rfl,rfl,rfl,rfl⟩:=h4
       go_wp2_with ((go_at_call 17;(with_reducible refine (spec_GoalOk.calls k q.1 _ _ x0 _ _ x1 _ _ x2 true _ ?s1 ?s2 ?s3 ?s4 ?s5 ?s6 HG.out).mono ?_);(case s1=>exact (Kd.R_reads' (Kd.R_far (p:=⟨gb2,3,none⟩) (Kd.R_put2 HR0.out BK2.out) (fun _ hk=>hk.2) (.slice A2 x2.length c2))).2.2);(case s2=>exact (Kd.R_reads' HR0.out).2.1);(case s3=>exact (Kd.R_reads' (Kd.R_far (p:=⟨gb2,3,none⟩) (Kd.R_put2 HR1.out BK2.out) (fun _ hk=>hk.2) (.slice A2 x2.length c2))).2.2);(case s4=>exact (Kd.R_reads' HR1.out).2.1);(case s5=>exact (Kd.R_reads' (Kd.R_far (p:=⟨gb2,3,none⟩) (Kd.R_put2 HR2.out BK2.out) (fun _ hk=>hk.2) (.slice A2 x2.length c2))).2.2);(case s6=>exact (Kd.R_reads' HR2.out).2.1);rintro e w10 ⟨rfl,hb⟩;have n0_:=Aside0.mk (blk_below (blkp (blk_far (blk_far2 N12.out BK1.out) N12.out _)) hb);have n1_:=Aside0.mk (blk_below (blkp (blk_put (cs:=#[.int .i64 q.1,.slice A0 x0.length c0,.slice A1 x1.length c1,.slice none 0 0]) (blk_put (cs:=#[.int .i64 q.1,.slice A0 x0.length c0,.slice none 0 0,.slice none 0 0]) (blk_put (cs:=#[.int .i64 q.1,.slice none 0 0,.slice none 0 0,.slice none 0 0]) BK2.out 1 _ rfl) 2 _ rfl) 3 _ rfl)) hb);have n2_:=Aside0.mk (below_step qz14 hb);have m0_:=Aside0.mk (Kd.R_below (Kd.R_far (p:=⟨gb2,3,none⟩) (Kd.R_put2 HR0.out BK2.out) (fun _ hk=>hk.2) (.slice A2 x2.length c2)) hb);have m1_:=Aside0.mk (Kd.R_below (Kd.R_far (p:=⟨gb2,3,none⟩) (Kd.R_put2 HR1.out BK2.out) (fun _ hk=>hk.2) (.slice A2 x2.length c2)) hb);have m2_:=Aside0.mk (Kd.R_below (Kd.R_far (p:=⟨gb2,3,none⟩) (Kd.R_put2 HR2.out BK2.out) (fun _ hk=>hk.2) (.slice A2 x2.length c2)) hb);clear HR0;have HR0:=m0_;clear HR1;have HR1:=m1_;clear HR2;have HR2:=m2_;clear BK1 BK2 HB;have BK1:=n0_;have BK2:=n1_;have HB:=n2_;clear n0_ n1_ n2_ m0_ m1_ m2_ hb;have hzh_0:w10.cell? ⟨gb1,0,none⟩=some (.int .i64 0):=(blk_cell BK1.out 0).trans rfl;have hzh_1:w10.cell? ⟨gb1,1,none⟩=some (.slice none 0 0):=(blk_cell BK1.out 1).trans rfl;have hzh_2:w10.cell? ⟨gb1,2,none⟩=some (.slice none 0 0):=(blk_cell BK1.out 2).trans rfl;have hzh_3:w10.cell? ⟨gb1,3,none⟩=some (.slice none 0 0):=(blk_cell BK1.out 3).trans rfl;have hfh_0:=blk_frozen BK1.out 0;have hfh_1:=blk_frozen BK1.out 1;have hfh_2:=blk_frozen BK1.out 2;have hfh_3:=blk_frozen BK1.out 3;have hzi_0:w10.cell? ⟨gb2,0,none⟩=some (.int .i64 q.1):=(blk_cell BK2.out 0).trans rfl;have hzi_1:w10.cell? ⟨gb2,1,none⟩=some (.slice A0 x0.length c0):=(blk_cell BK2.out 1).trans rfl;have hzi_2:w10.cell? ⟨gb2,2,none⟩=some (.slice A1 x1.length c1):=(blk_cell BK2.out 2).trans rfl;have hzi_3:w10.cell? ⟨gb2,3,none⟩=some (.slice A2 x2.length c2):=(blk_cell BK2.out 3).trans rfl;have hfi_0:=blk_frozen BK2.out 0;have hfi_1:=blk_frozen BK2.out 1;have hfi_2:=blk_frozen BK2.out 2;have hfi_3:=blk_frozen BK2.out 3))
       refine bodyPost_ret (results_ct rfl _ _ gb1 24 #[.int .i64 q.1,.slice A0 x0.length c0,.slice A1 x1.length c1,.slice A2 x2.length c2] (0,0) _ rfl (blkp (blk_put4 BK1.out)) hu rfl (by kernel_rfl)) rfl ?_;exact ⟨_,_,_,rfl,(Kd.R_mono (Kd.R_put4 HR0.out BK1.out) (fun k_ hk=>⟨AP01.out k_ hk.1.1,AP02.out k_ hk.1.1⟩)),(Kd.R_mono (Kd.R_put4 HR1.out BK1.out) (fun k_ hk=>⟨AP10.out k_ hk.1.1,AP12.out k_ hk.1.1⟩)),(Kd.R_mono (Kd.R_put4 HR2.out BK1.out) (fun k_ hk=>⟨AP20.out k_ hk.1.1,AP21.out k_ hk.1.1⟩)),qz14⟩

/-! ### spec_l3Cut: function 43 -/
/-- a text ahead of a word with spaces around it, and behind that -/
def spec_l3Cut.l0:Nat→ByteArray→ByteArray→Int→Option (ByteArray × ByteArray × Bool)
 | 0,_,_,_=>none
 | k+1,x0,x7,x8=>if (wrap64 (x8+(x7.size:Int)))≤(x0.size:Int) then (if 0≤x8 then (if x8≤(wrap64 (x8+(x7.size:Int))) then (if (x0.extract (x8:Int).toNat ((wrap64 (x8+(x7.size:Int))):Int).toNat).toList=x7.toList then (if x8≤(x0.size:Int) then (if 0≤(wrap64 (x8+(x7.size:Int))) then (some (x0.extract 0 (x8:Int).toNat,x0.extract ((wrap64 (x8+(x7.size:Int))):Int).toNat x0.size,true)) else (none)) else (none)) else (spec_l3Cut.l0 k x0 x7 (wrap64 (x8+1)))) else (none)) else (none)) else (some (x0,(⟨#[]⟩:ByteArray),false))
def spec_l3Cut.f (k:Nat) (a0:ByteArray) (a1:ByteArray):Option (ByteArray × ByteArray × Bool):=if 1+a1.size≤9223372036854775807 then (if ((⟨#[32]⟩:ByteArray)++a1).size+1≤9223372036854775807 then (spec_l3Cut.l0 k a0 (((⟨#[32]⟩:ByteArray)++a1)++(⟨#[32]⟩:ByteArray)) 0) else (none)) else (none)
set_option maxHeartbeats 8000000 in
set_option maxRecDepth 100000 in
theorem spec_l3Cut.calls (k:Nat) (a0:ByteArray) (a1:ByteArray) (r1:ByteArray) (r2:ByteArray) (r3:Bool) (w:World) (h:spec_l3Cut.f k a0 a1=some (r1,r2,r3)) :
  Calls Tryz.prog 43 #[.string a0,.string a1] w fun e w'=>e = .returned (.tuple #[.string r1,.string r2,.bool r3])∧Drawn0 w w':=by
 have H:(if 1+a1.size≤9223372036854775807 then (if ((⟨#[32]⟩:ByteArray)++a1).size+1≤9223372036854775807 then (spec_l3Cut.l0 k a0 (((⟨#[32]⟩:ByteArray)++a1)++(⟨#[32]⟩:ByteArray)) 0) else (none)) else (none))=some (r1,r2,r3):=h;clear h;by_cases c3:1+a1.size≤9223372036854775807
 ·rw [if_pos c3] at H
  have c3b0:=eq_true c3;have c3b1:decide (1+a1.size≤9223372036854775807)=true:=decide_eq_true c3;(try have c3b2:(9223372036854775807<1+a1.size)=False:=eq_false (Nat.not_lt.2 c3));by_cases c4:((⟨#[32]⟩:ByteArray)++a1).size+1≤9223372036854775807
  ·rw [if_pos c4] at H
   have c4b0:=eq_true c4;have c4b1:decide (((⟨#[32]⟩:ByteArray)++a1).size+1≤9223372036854775807)=true:=decide_eq_true c4;(try (have c4b1s:=c4b1;simp only [ByteArray.size_append,(show (⟨#[32]⟩:ByteArray).size=1 from rfl)] at c4b1s));(try have c4b2:(9223372036854775807<((⟨#[32]⟩:ByteArray)++a1).size+1)=False:=eq_false (Nat.not_lt.2 c4));(try (have c4b2s:=c4b2;simp only [ByteArray.size_append,(show (⟨#[32]⟩:ByteArray).size=1 from rfl)] at c4b2s));have H':=Aside0.mk H;clear H;go_enter Tryz.func43,Tryz.ntmps43;go_wp2
   repeat (go_quiet (fail);try go_wp2)
   generalize hwd:(((⟨#[32]⟩:ByteArray)++a1)++(⟨#[32]⟩:ByteArray))=wd at H' ⊢
   clear hwd
   go_loopg [8] k (fun kq v8 w'=>∃ (x8_1:Int),v8 = .int .i64 x8_1∧Aside0 (spec_l3Cut.l0 kq a0 wd x8_1=some (r1,r2,r3))∧Aside0 (kq≤k)∧Drawn0 w w')
   case atStart=>exact ⟨(0),qz5,H',⟨Nat.le_refl _⟩,qz20⟩
   case round=>
    clear H';obtain ⟨x8_1,rfl,HA,HK1,⟨m1,rfl⟩⟩:=hrel;cases gk with
    | zero=>exact absurd HA.out (by simp [spec_l3Cut.l0])
    | succ k1=>
     have H:=HA.out;clear HA;simp only [spec_l3Cut.l0] at H;by_cases c5:(wrap64 (x8_1+(wd.size:Int)))≤(a0.size:Int)
     ·rw [if_pos c5] at H
      have c5b0:decide ((wrap64 (x8_1+(wd.size:Int)))≤(a0.size:Int))=true:=decide_eq_true c5;clear c5;by_cases c6:0≤x8_1
      ·rw [if_pos c6] at H
       have c6b0:=eq_true c6;have c6b1:decide (0≤x8_1)=true:=decide_eq_true c6;clear c6;by_cases c7:x8_1≤(wrap64 (x8_1+(wd.size:Int)))
       ·rw [if_pos c7] at H
        have c7b0:=eq_true c7;have c7b1:decide (x8_1≤(wrap64 (x8_1+(wd.size:Int))))=true:=decide_eq_true c7;have c8b0:=eq_true (of_decide_eq_true qz4:(wrap64 (x8_1+(wd.size:Int)))≤(a0.size:Int));by_cases c9:(a0.extract (x8_1:Int).toNat ((wrap64 (x8_1+(wd.size:Int))):Int).toNat).toList=wd.toList
        ·rw [if_pos c9] at H
         have c9b0:((a0.extract (x8_1:Int).toNat ((wrap64 (x8_1+(wd.size:Int))):Int).toNat).toList == wd.toList)=true:=beq_iff_eq.mpr c9;have c9b1:((a0.extract (x8_1:Int).toNat ((wrap64 (x8_1+(wd.size:Int))):Int).toNat).toList != wd.toList)=false:=bne_eq_false_iff_eq.mpr c9;clear c9;have c10b0:=eq_true (of_decide_eq_true qz4:0≤x8_1);by_cases c11:x8_1≤(a0.size:Int)
         ·rw [if_pos c11] at H
          have c11b0:=eq_true c11;have c11b1:decide (x8_1≤(a0.size:Int))=true:=decide_eq_true c11;clear c11;obtain ⟨ji12,hji12⟩:∃ j_:Int,(wrap64 (x8_1+(wd.size:Int)))=j_:=⟨_,rfl⟩;replace H:(if 0≤(ji12) then (some (a0.extract 0 (x8_1:Int).toNat,a0.extract ((ji12):Int).toNat a0.size,true)) else (none))=some (r1,r2,r3):=by first|(rw [hji12] at H;exact H)|(simp only [hji12] at H ⊢;exact H)
          (try rw [hji12] at c5b0);(try rw [hji12] at c7b0);(try rw [hji12] at c7b1);(try rw [hji12] at c7);(try rw [hji12] at c9b0);(try rw [hji12] at c9b1);have hji12w:(IntKind.i64.wrap (x8_1+(wd.size:Int)))=ji12:=(i64_w _).trans hji12;by_cases c13:0≤(ji12)
          ·rw [if_pos c13] at H
           have c13b0:=eq_true c13;have c13b1:decide (0≤(ji12))=true:=decide_eq_true c13;clear c13;have c14b0:=eq_true (of_decide_eq_true qz4:(ji12)≤(a0.size:Int));simp only [Option.some.injEq,Prod.mk.injEq] at H;obtain ⟨rfl,rfl,rfl⟩:=H;go_wp2
           repeat (go_quiet (fail);try go_wp2)
           go_ret3;exact ⟨by first|rfl|(simp;done)|(simp only [← hji12] <;> (first|rfl|simp))|(simp [*];done),qz20⟩
          ·rw [if_neg c13] at H
           exact absurd H (by simp)
         ·rw [if_neg c11] at H
          exact absurd H (by simp)
        ·rw [if_neg c9] at H
         have c9b0:((a0.extract (x8_1:Int).toNat ((wrap64 (x8_1+(wd.size:Int))):Int).toNat).toList == wd.toList)=false:=beq_eq_false_iff_ne.mpr c9;have c9b1:((a0.extract (x8_1:Int).toNat ((wrap64 (x8_1+(wd.size:Int))):Int).toNat).toList != wd.toList)=true:=bne_iff_ne.mpr c9;have H':=Aside0.mk H;clear H;go_wp2
         repeat (go_quiet (fail);try go_wp2)
         go_roundg k1
         case measure=>have:=HK1.out;omega
         case rel=>exact ⟨(wrap64 (x8_1+1)),qz5,H',⟨by have:=HK1.out;omega⟩,qz20⟩
       ·rw [if_neg c7] at H
        exact absurd H (by simp)
      ·rw [if_neg c6] at H
       exact absurd H (by simp)
     ·rw [if_neg c5] at H
      have c5b0:decide ((wrap64 (x8_1+(wd.size:Int)))≤(a0.size:Int))=false:=decide_eq_false c5;clear c5;simp only [Option.some.injEq,Prod.mk.injEq] at H;obtain ⟨rfl,rfl,rfl⟩:=H;go_wp2
      repeat (go_quiet (fail);try go_wp2)
      go_ret3;exact ⟨qz5,qz20⟩
  ·rw [if_neg c4] at H
   exact absurd H (by simp)
 ·rw [if_neg c3] at H
  exact absurd H (by simp)

/-! ### spec_l3Clause: function 45 -/
mutual
def spec_l3Clause.j0:Nat→Bool→List (S63)→List (S24)→Option (Bool)
 | 0,_,_,_=>none
 | k+1,x19,x213000,x213001=>if x19=true then (some false) else (spec_l3Clause.l0 k 0 x213000 x213001)
def spec_l3Clause.l0:Nat→Int→List (S63)→List (S24)→Option (Bool)
 | 0,_,_,_=>none
 | k+1,x3,x213000,x213001=>if x3<(x213001.length:Int) then (if 0≤x3 then ((spec_GoalOk.f k ((rd_T24 x213001 x3).f0) ((rd_T24 x213001 x3).f1) ((rd_T24 x213001 x3).f2) ((rd_T24 x213001 x3).f3)).bind fun t216=>(if t216=true then (spec_l3Clause.l0 k (wrap64 (x3+1)) x213000 x213001) else (some false))) else (none)) else (some true)
end
def spec_l3Clause.f (k:Nat) (l0_0:List (S63)) (l0_1:List (S24)):Option (Bool):=(spec_l3Term.f k l0_0).bind fun t213=>(if t213=true then ((spec_l3Call.f l0_0).bind fun t214=>(if t214=true then (spec_l3Clause.j0 k (decide ((l0_1.length:Int) > 4)) l0_0 l0_1) else (spec_l3Clause.j0 k true l0_0 l0_1))) else (spec_l3Clause.j0 k true l0_0 l0_1))
set_option maxHeartbeats 8000000 in
set_option maxRecDepth 100000 in
theorem spec_l3Clause.calls (k:Nat) (A0_0:Option Addr) (c0_0:Nat) (l0_0:List (S63)) (A0_1:Option Addr) (c0_1:Nat) (l0_1:List (S24)) (r:Bool) (w:World) (hr0_0:Kd.C k63 w A0_0 l0_0.length l0_0) (hc0_0:l0_0.length≤c0_0) (hr0_1:Kd.C k24 w A0_1 l0_1.length l0_1) (hc0_1:l0_1.length≤c0_1) (h:spec_l3Clause.f k l0_0 l0_1=some r) :
  Calls Tryz.prog 45 #[.agg #[.slice A0_0 l0_0.length c0_0,.slice A0_1 l0_1.length c0_1]] w fun e w'=>e = .returned (.bool r)∧Below w.heap.size w w':=by
 have hu39:=Tryz.underlying39;have hu24:=Tryz.underlying24;have HR0_0:=Aside0.mk hr0_0;have HC0_0:=Aside0.mk hc0_0;clear hr0_0 hc0_0;have HR0_1:=Aside0.mk hr0_1;have HC0_1:=Aside0.mk hc0_1;clear hr0_1 hc0_1;have HB:=Aside0.mk (Below.refl w.heap.size w);have H:((spec_l3Term.f k l0_0).bind fun t213=>(if t213=true then ((spec_l3Call.f l0_0).bind fun t214=>(if t214=true then (spec_l3Clause.j0 k (decide ((l0_1.length:Int) > 4)) l0_0 l0_1) else (spec_l3Clause.j0 k true l0_0 l0_1))) else (spec_l3Clause.j0 k true l0_0 l0_1)))=some r:=h;clear h;have HC2:=Aside0.mk H;clear H;go_enter Tryz.func45,Tryz.ntmps45;go_upto_region 1 with (first|((with_reducible refine gate_dst (N:=1) rfl ?_);(try (refine gate_guard (by rfl) ?_;dsimp only));refine box_event ?hg (N:=1) ?hd (cs:=#[.slice A0_0 l0_0.length c0_0,.slice A0_1 l0_1.length c0_1]) (t:=39) ?hr ?_;(case hd=>rfl);(case hg=>rfl);(case hr=>first|(go_simp;done)|(go_simp;rfl));intro gb212 hg w3 hbox hb;have n_:=as3 (below_step qz3 hb) (hbox) ((by rw [hg];exact (below_size qz3):w.heap.size≤gb212));clear HB;obtain ⟨HB,BK212,GE212⟩:=n_;clear hb hbox hg))
 (try simp only [Act.put,sA_,sZ_,sS_]);go_cut [19] (fun v19 wc=>∃ (kq:Nat) (x19_1:Bool),v19 = .bool x19_1∧Aside0 (spec_l3Clause.j0 kq x19_1 l0_0 l0_1=some r)∧Aside0 (kq≤k)∧Aside0 (wc.heap[gb212]?=some (.cells #[(.slice A0_0 l0_0.length c0_0),(.slice A0_1 l0_1.length c0_1)] 39 (0,0)))∧Aside0 (Below w.heap.size w wc))
 case first=>
  have H:=HC2.out;clear HC2;replace H:=Option.bind_eq_some_iff.mp H;obtain ⟨t213,A40,H⟩:=H;(try dsimp only at H);have A4:=Aside0.mk A40;clear A40;by_cases c5:t213=true
  ·subst c5
   have H1:((spec_l3Call.f l0_0).bind fun t214=>(if t214=true then (spec_l3Clause.j0 k (decide ((l0_1.length:Int) > 4)) l0_0 l0_1) else (spec_l3Clause.j0 k true l0_0 l0_1)))=some r:=qz26;clear H;have H:=H1;clear H1;replace H:=Option.bind_eq_some_iff.mp H;obtain ⟨t214,A60,H⟩:=H;(try dsimp only at H);have A6:=Aside0.mk A60;clear A60;by_cases c7:t214=true
   ·subst c7
    have H1:(spec_l3Clause.j0 k (decide ((l0_1.length:Int) > 4)) l0_0 l0_1)=some r:=qz26;clear H;have H:=H1;clear H1;have H':=Aside0.mk H;clear H;obtain ⟨hcz8_0,hcz8_1,hfz8_0,hfz8_1⟩:=blk2 BK212.out
    go_wp2_with (first|(go_at_call 40;(with_reducible refine (spec_l3Term.calls k _ _ l0_0 true _ ?side1 ?side2 A4.out).mono ?_);(case side1=>exact qz19);(case side2=>exact HC0_0.out);rintro e w9 ⟨rfl,hb⟩;have n_:=as2 (blk_below (blkp BK212.out) hb) (below_step qz24 hb);clear BK212 HB;obtain ⟨BK212,HB⟩:=n_;clear hb;obtain ⟨hcz10_0,hcz10_1,hfz10_0,hfz10_1⟩:=blk2 BK212.out)|(go_at_call 41;(with_reducible refine (spec_l3Call.calls _ _ l0_0 true _ ?side1 ?side2 A6.out).mono ?_);(case side1=>exact qz19);(case side2=>exact HC0_0.out);rintro e w' ⟨rfl,⟨nd,rfl⟩⟩))
    go_meet
    case rel=>exact ⟨_,(decide ((l0_1.length:Int) > 4)),qz5,H',⟨qz44⟩,⟨blkp BK212.out⟩,⟨qz24⟩⟩
   ·replace c7:=Bool.eq_false_iff.mpr c7
    subst c7;have H1:(spec_l3Clause.j0 k true l0_0 l0_1)=some r:=qz15;clear H;have H:=H1;clear H1;have H':=Aside0.mk H;clear H;obtain ⟨hcz11_0,hcz11_1,hfz11_0,hfz11_1⟩:=blk2 BK212.out
    go_wp2_with (first|(go_at_call 40;(with_reducible refine (spec_l3Term.calls k _ _ l0_0 true _ ?side1 ?side2 A4.out).mono ?_);(case side1=>exact qz19);(case side2=>exact HC0_0.out);rintro e w12 ⟨rfl,hb⟩;have n_:=as2 (blk_below (blkp BK212.out) hb) (below_step qz24 hb);clear BK212 HB;obtain ⟨BK212,HB⟩:=n_;clear hb;obtain ⟨hcz13_0,hcz13_1,hfz13_0,hfz13_1⟩:=blk2 BK212.out)|(go_at_call 41;(with_reducible refine (spec_l3Call.calls _ _ l0_0 false _ ?side1 ?side2 A6.out).mono ?_);(case side1=>exact qz19);(case side2=>exact HC0_0.out);rintro e w' ⟨rfl,⟨nd,rfl⟩⟩))
    go_meet
    case rel=>exact ⟨_,(true),qz5,H',⟨qz44⟩,⟨blkp BK212.out⟩,⟨qz24⟩⟩
  ·replace c5:=Bool.eq_false_iff.mpr c5
   subst c5;have H1:(spec_l3Clause.j0 k true l0_0 l0_1)=some r:=qz15;clear H;have H:=H1;clear H1;have H':=Aside0.mk H;clear H;obtain ⟨hcz14_0,hcz14_1,hfz14_0,hfz14_1⟩:=blk2 BK212.out
   go_wp2_with (first|(go_at_call 40;(with_reducible refine (spec_l3Term.calls k _ _ l0_0 false _ ?side1 ?side2 A4.out).mono ?_);(case side1=>exact qz19);(case side2=>exact HC0_0.out);rintro e w15 ⟨rfl,hb⟩;have n_:=as2 (blk_below (blkp BK212.out) hb) (below_step qz24 hb);clear BK212 HB;obtain ⟨BK212,HB⟩:=n_;clear hb))
   go_meet
   case rel=>exact ⟨_,(true),qz5,H',⟨qz44⟩,⟨blkp BK212.out⟩,⟨qz24⟩⟩
 case rest=>
  clear HC2;obtain ⟨kq,x19_1,rfl,HA,HJ1,BK212,HB⟩:=hcut;cases kq with
  | zero=>exact absurd HA.out (by simp [spec_l3Clause.j0])
  | succ kj1=>
   have H:=HA.out;clear HA;simp only [spec_l3Clause.j0] at H;by_cases c16:x19_1=true
   ·subst c16
    have H1:(some false)=some r:=qz26;clear H;have H:=H1;clear H1;obtain rfl:=Option.some.inj H;go_wp2;go_ret;exact ⟨qz2,qz24⟩
   ·replace c16:=Bool.eq_false_iff.mpr c16
    subst c16;have H1:(spec_l3Clause.l0 kj1 0 l0_0 l0_1)=some r:=qz15;clear H;have H:=H1;clear H1;have H':=Aside0.mk H;clear H;go_wp2
    go_loopg [3] kj1 (fun kq v3 w'=>∃ (x3_2:Int),v3 = .int .i64 x3_2∧Aside0 (spec_l3Clause.l0 kq x3_2 l0_0 l0_1=some r)∧Aside0 (kq≤kj1)∧Aside0 (w'.heap[gb212]?=some (.cells #[(.slice A0_0 l0_0.length c0_0),(.slice A0_1 l0_1.length c0_1)] 39 (0,0)))∧Aside0 (Below w.heap.size w w'))
    case atStart=>exact ⟨(0),qz5,H',⟨Nat.le_refl _⟩,⟨blkp BK212.out⟩,⟨qz24⟩⟩
    case round=>
     clear H';(try clear c16);obtain ⟨x3_2,rfl,HA,HK2,BK212,HB⟩:=hrel;cases gk with
     | zero=>exact absurd HA.out (by simp [spec_l3Clause.l0])
     | succ k2=>
      have H:=HA.out;clear HA;simp only [spec_l3Clause.l0] at H;by_cases c17:x3_2<(l0_1.length:Int)
      ·rw [if_pos c17] at H
       have c17b0:decide (x3_2<(l0_1.length:Int))=true:=decide_eq_true c17;clear c17;by_cases c18:0≤x3_2
       ·rw [if_pos c18] at H
        have c18b0:decide (0≤x3_2)=true:=decide_eq_true c18;clear c18;replace H:=Option.bind_eq_some_iff.mp H;obtain ⟨t216,A190,H⟩:=H;(try dsimp only at H);have A19:=Aside0.mk A190;clear A190;have HC20:=Aside0.mk H;clear H;obtain ⟨hcz21_0,hcz21_1,hfz21_0,hfz21_1⟩:=blk2 BK212.out;have p215:0≤(x3_2:Int):=of_decide_eq_true qz4;have q215:x3_2<(l0_1.length:Int):=of_decide_eq_true qz4;obtain ⟨ad215,A215_1,c215_1,A215_2,c215_2,A215_3,c215_3,e215,hx215_0,hx215_1,hx215_2,hx215_3,hl215_1,hi215_1,hl215_2,hi215_2,hl215_3,hi215_3⟩:=at_T24 HR0_1.out x3_2 p215 q215;cases e215
        replace hx215_0:=(HB.out.cell (World.block_lt_of_cell? w _ hx215_0)).trans hx215_0;replace hx215_1:=(HB.out.cell (World.block_lt_of_cell? w _ hx215_1)).trans hx215_1;replace hx215_2:=(HB.out.cell (World.block_lt_of_cell? w _ hx215_2)).trans hx215_2;replace hx215_3:=(HB.out.cell (World.block_lt_of_cell? w _ hx215_3)).trans hx215_3;have HR215_1:=Aside0.mk hi215_1;have HC215_1:=Aside0.mk hl215_1;clear hi215_1 hl215_1;have HR215_2:=Aside0.mk hi215_2;have HC215_2:=Aside0.mk hl215_2;clear hi215_2 hl215_2;have HR215_3:=Aside0.mk hi215_3;have HC215_3:=Aside0.mk hl215_3;clear hi215_3 hl215_3;replace p215:=eq_true p215;replace q215:=eq_true q215;go_upto_if 33 with (first|(go_at_call 17;(with_reducible refine (spec_GoalOk.calls k2 ((rd_T24 l0_1 x3_2).f0) _ _ ((rd_T24 l0_1 x3_2).f1) _ _ ((rd_T24 l0_1 x3_2).f2) _ _ ((rd_T24 l0_1 x3_2).f3) t216 _ ?side1 ?side2 ?side3 ?side4 ?side5 ?side6 A19.out).mono ?_);(case side1=>repeat (first|exact (Kd.C_below HR215_1.out HB.out)|(with_reducible refine Kd.C_alloc ?_ _)|(with_reducible refine Kd.C_drewN ?_ _)|(with_reducible refine Kd.C_drew ?_)));(case side2=>exact HC215_1.out);(case side3=>repeat (first|exact (Kd.C_below HR215_2.out HB.out)|(with_reducible refine Kd.C_alloc ?_ _)|(with_reducible refine Kd.C_drewN ?_ _)|(with_reducible refine Kd.C_drew ?_)));(case side4=>exact HC215_2.out);(case side5=>repeat (first|exact (Kd.C_below HR215_3.out HB.out)|(with_reducible refine Kd.C_alloc ?_ _)|(with_reducible refine Kd.C_drewN ?_ _)|(with_reducible refine Kd.C_drew ?_)));(case side6=>exact HC215_3.out);rintro e w22 ⟨rfl,hb⟩;have n_:=as2 (blk_below (blkp BK212.out) hb) (below_step qz24 hb);clear BK212 HB;obtain ⟨BK212,HB⟩:=n_;clear hb))
        (try simp only [Act.put,sA_,sZ_,sS_]);have H:=HC20.out;clear HC20;by_cases c23:t216=true
        ·subst c23
         have H1:(spec_l3Clause.l0 k2 (wrap64 (x3_2+1)) l0_0 l0_1)=some r:=qz26;clear H;have H:=H1;clear H1;have H':=Aside0.mk H;clear H;go_wp2;go_roundg k2
         case measure=>have:=HJ1.out;have:=HK2.out;omega
         case rel=>exact ⟨(wrap64 (x3_2+1)),qz5,H',⟨qz59⟩,⟨blkp BK212.out⟩,⟨qz24⟩⟩
        ·replace c23:=Bool.eq_false_iff.mpr c23
         subst c23;have H1:(some false)=some r:=qz15;clear H;have H:=H1;clear H1;obtain rfl:=Option.some.inj H;go_wp2;go_ret;exact ⟨qz2,qz24⟩
       ·rw [if_neg c18] at H
        exact absurd H (by simp)
      ·rw [if_neg c17] at H
       have c17b0:decide (x3_2<(l0_1.length:Int))=false:=decide_eq_false c17;clear c17;obtain rfl:=Option.some.inj H;obtain ⟨hcz24_0,hcz24_1,hfz24_0,hfz24_1⟩:=blk2 BK212.out;go_wp2;go_ret;exact ⟨qz2,qz24⟩

/-! ### spec_PrgRead: function 19 -/
mutual
def spec_PrgRead.l0:Nat→ByteArray→Bool→List (S63)→List (S24)→Option ((List (S63)) × (List (S24)) × Bool)
 | 0,_,_,_,_=>none
 | k+1,x5,x6,x226000,x226001=>if x6=true then (spec_PrgRead.j1 k x5 (decide ((x226001.length:Int)≤4)) x226000 x226001) else (spec_PrgRead.j1 k x5 false x226000 x226001)
def spec_PrgRead.j1:Nat→ByteArray→Bool→List (S63)→List (S24)→Option ((List (S63)) × (List (S24)) × Bool)
 | 0,_,_,_,_=>none
 | k+1,x5,x37,x226000,x226001=>if x37=true then ((spec_l3Cut.f k x5 (⟨#[97,110,100]⟩:ByteArray)).bind fun bt226=>((spec_GoalRead.f k bt226.1).bind fun bt229=>(if bt229.2.2.2.2=true then (if x226001.length<1759218604441 then (spec_PrgRead.l0 k bt226.2.1 bt226.2.2 x226000 (x226001++[(⟨bt229.1,bt229.2.1,bt229.2.2.1,bt229.2.2.2.1⟩:S24)])) else (none)) else (some (([]:List (S63)),([]:List (S24)),false))))) else ((spec_l3Clause.f k x226000 x226001).bind fun t244=>(if t244=true then (some (x226000,x226001,true)) else (some (([]:List (S63)),([]:List (S24)),false))))
end
def spec_PrgRead.f (k:Nat) (a0:ByteArray):Option ((List (S63)) × (List (S24)) × Bool):=(spec_l3Cut.f k a0 (⟨#[105,102]⟩:ByteArray)).bind fun bt218=>((spec_TrmRead.f k bt218.1).bind fun bt221=>(if bt221.2=true then (spec_PrgRead.l0 k bt218.2.1 bt218.2.2 bt221.1 ([]:List (S24))) else (some (([]:List (S63)),([]:List (S24)),false))))
set_option maxHeartbeats 8000000 in
set_option maxRecDepth 100000 in
theorem spec_PrgRead.calls (k:Nat) (a0:ByteArray) (r1:List (S63)) (r2:List (S24)) (r3:Bool) (w:World) (h:spec_PrgRead.f k a0=some (r1,r2,r3)) :
  Calls Tryz.prog 19 #[.string a0] w fun e w'=>∃ v0_ v1_:Value,e = .returned (.tuple #[.agg #[v0_,v1_],.bool r3])∧Kd.R k63 63 w' w.heap.size (fun _=>True) v0_ r1∧Kd.S k24 24 w' w.heap.size (fun k_=>some k_≠(v0_:Value).ownBlock) v1_ r2∧Below w.heap.size w w':=by
 have hu39:=Tryz.underlying39;have hu24:=Tryz.underlying24;have HB:=Aside0.mk (Below.refl w.heap.size w);have H:((spec_l3Cut.f k a0 (⟨#[105,102]⟩:ByteArray)).bind fun bt218=>((spec_TrmRead.f k bt218.1).bind fun bt221=>(if bt221.2=true then (spec_PrgRead.l0 k bt218.2.1 bt218.2.2 bt221.1 ([]:List (S24))) else (some (([]:List (S63)),([]:List (S24)),false)))))=some (r1,r2,r3):=h;clear h;replace H:=Option.bind_eq_some_iff.mp H;obtain ⟨⟨t218,t219,t220⟩,A20,H⟩:=H;(try dsimp only at H);have A2:=Aside0.mk A20;clear A20;replace H:=Option.bind_eq_some_iff.mp H;obtain ⟨⟨t221,t222⟩,A30,H⟩:=H;(try dsimp only at H);have A3:=Aside0.mk A30;clear A30;by_cases c4:t222=true
 ·subst c4
  have H1:(spec_PrgRead.l0 k t219 t220 t221 ([]:List (S24)))=some (r1,r2,r3):=qz26;clear H;have H:=H1;clear H1;have H':=Aside0.mk H;clear H;go_enter Tryz.func19,Tryz.ntmps19
  go_wp2_with (first|((with_reducible refine gate_dst (N:=2) rfl ?_);(try (refine gate_guard (by rfl) ?_;dsimp only));refine box_event ?hg (N:=2) ?hd (cs:=#[.slice none 0 0,.slice none 0 0]) (t:=39) ?hr ?_;(case hd=>rfl);(case hg=>rfl);(case hr=>first|(go_simp;done)|(go_simp;rfl));intro gb217 hg w5 hbox hb;have n_:=as3 (below_step qz3 hb) (hbox) ((by rw [hg];exact (below_size qz3):w.heap.size≤gb217));clear HB;obtain ⟨HB,BK217,GE217⟩:=n_;clear hb hbox hg)|(go_at_call 43;(with_reducible refine (spec_l3Cut.calls k a0 (⟨#[105,102]⟩:ByteArray) t218 t219 t220 _ A2.out).mono ?_);rintro e w' ⟨rfl,⟨nd,rfl⟩⟩;(try (rw [drewN_self w5];generalize hq_:World.drewN w5 _=w5;have n0_:Aside0 (w5.heap[gb217]?=some (.cells #[.slice none 0 0,.slice none 0 0] 39 (0,0))):=⟨by rw [← hq_];exact (blkp BK217.out)⟩;have n1_:Aside0 (Below w.heap.size w w5):=⟨by rw [← hq_];exact qz27⟩;clear BK217 HB hq_;have BK217:=n0_;have HB:=n1_;clear n0_ n1_)))|(go_at_call 44;(with_reducible refine (spec_TrmRead.calls k t218 t221 true _ A3.out).mono ?_);rintro e w6 ⟨v223,rfl,ho0,hb⟩;have n_:=as3 (Kd.R_lower ho0 (below_size qz27)) (blk_below (blkp BK217.out) hb) (below_step qz27 hb);clear BK217 HB;obtain ⟨HO224,BK217,HB⟩:=n_;clear hb ho0;obtain ⟨Ao7,co7,eo7⟩:=Kd.R_slice HO224.out;subst eo7)|((with_reducible refine gate_dst (N:=9) rfl ?_);(try (refine gate_guard (by rfl) ?_;dsimp only));refine box_event ?hg (N:=9) ?hd (cs:=#[.slice none 0 0,.slice none 0 0]) (t:=39) ?hr ?_;(case hd=>rfl);(case hg=>rfl);(case hr=>first|(go_simp;done)|(go_simp;rfl));intro gb225 hg w8 hbox hb;have n_:=as7 (Kd.R_below (Kd.Rp HO224.out) hb) (blk_below (blkp BK217.out) hb) (below_step qz27 hb) (hbox) ((by rw [hg];exact (below_size qz27):w.heap.size≤gb225)) ((by rw [hg];exact Nat.ne_of_lt (blk_lt (blkp BK217.out)):gb217≠gb225)) ((by rw [hg];exact Nat.ne_of_gt (blk_lt (blkp BK217.out)):gb225≠gb217));clear HO224 BK217 HB;obtain ⟨HO224,BK217,HB,BK225,GE225,NB217_225,NB225_217⟩:=n_;clear hb hbox hg;have hnb9:=NB225_217.out;have hnc9:=NB217_225.out;obtain ⟨hcz10_0,hcz10_1,hfz10_0,hfz10_1⟩:=blk2 BK225.out))
  go_loopg [5,6] k (fun kq v5 v6 w'=>∃ (x5_1:ByteArray) (x6_1:Bool) (x226001_1:List (S24)) (u226001:Value),v5 = .string x5_1∧v6 = .bool x6_1∧Aside0 (spec_PrgRead.l0 kq x5_1 x6_1 t221 x226001_1=some (r1,r2,r3))∧Aside0 (kq≤k)∧Aside0 (Kd.R k63 63 w' w.heap.size (fun _=>True) (.slice Ao7 t221.length co7) t221)∧Aside0 (Kd.S k24 24 w' w.heap.size (fun k_=>some k_≠((.slice Ao7 t221.length co7):Value).ownBlock) u226001 x226001_1)∧Aside0 (w'.heap[gb217]?=some (.cells #[(.slice none 0 0),(.slice none 0 0)] 39 (0,0)))∧Aside0 (w'.heap[gb225]?=some (.cells #[(.slice Ao7 t221.length co7),u226001] 39 (0,0)))∧Aside0 (Below w.heap.size w w'))
  case atStart=>exact ⟨(t219),(t220),(([]:List (S24))),(.slice none 0 0),qz5,qz5,H',⟨Nat.le_refl _⟩,⟨Kd.Rp (Kd.R_mono (Kd.R_put2 HO224.out BK225.out) (fun _ hk=>trivial))⟩,⟨qz29⟩,⟨blkp (blk_far2 NB217_225.out BK217.out)⟩,⟨blkp (blk_put2 BK225.out)⟩,⟨qz10⟩⟩
  case round=>
   clear H';(try clear c4);(try clear hcz10_0);(try clear hcz10_1);(try clear hfz10_0);(try clear hfz10_1);obtain ⟨x5_1,x6_1,x226001_1,u226001,rfl,rfl,HA,HK1,HO_226000,HO_226001,BK217,BK225,HB⟩:=hrel;cases gk with
   | zero=>exact absurd HA.out (by simp [spec_PrgRead.l0])
   | succ k1=>
    have H:=HA.out;clear HA;simp only [spec_PrgRead.l0] at H;have HC11:=Aside0.mk H;clear H;go_upto_region 6 with (fail)
    go_cut [37] (fun v37 wc=>∃ (kq:Nat) (x37_10:Bool),v37 = .bool x37_10∧Aside0 (spec_PrgRead.j1 kq x5_1 x37_10 t221 x226001_1=some (r1,r2,r3))∧Aside0 (kq≤k1)∧Aside0 (Kd.R k63 63 wc w.heap.size (fun _=>True) (.slice Ao7 t221.length co7) t221)∧Aside0 (Kd.S k24 24 wc w.heap.size (fun k_=>some k_≠((.slice Ao7 t221.length co7):Value).ownBlock) u226001 x226001_1)∧Aside0 (wc.heap[gb217]?=some (.cells #[(.slice none 0 0),(.slice none 0 0)] 39 (0,0)))∧Aside0 (wc.heap[gb225]?=some (.cells #[(.slice Ao7 t221.length co7),u226001] 39 (0,0)))∧Aside0 (Below w.heap.size w wc))
    case first=>
     have H:=HC11.out;clear HC11;by_cases c12:x6_1=true
     ·subst c12
      have H1:(spec_PrgRead.j1 k1 x5_1 (decide ((x226001_1.length:Int)≤4)) t221 x226001_1)=some (r1,r2,r3):=qz26;clear H;have H:=H1;clear H1;have H':=Aside0.mk H;clear H;have hnb13:=NB225_217.out;have hnc13:=NB217_225.out;obtain ⟨hcz14_0,hcz14_1,hfz14_0,hfz14_1⟩:=blk2 BK225.out;obtain ⟨Ao15,co15,eo15⟩:=Kd.S_slice HO_226001.out;subst eo15;go_wp2;go_meet
      case rel=>exact ⟨_,(decide ((x226001_1.length:Int)≤4)),qz5,H',⟨qz45⟩,⟨Kd.Rp HO_226000.out⟩,⟨Kd.Sp HO_226001.out⟩,⟨blkp BK217.out⟩,⟨blkp BK225.out⟩,⟨qz10⟩⟩
     ·replace c12:=Bool.eq_false_iff.mpr c12
      subst c12;have H1:(spec_PrgRead.j1 k1 x5_1 false t221 x226001_1)=some (r1,r2,r3):=qz15;clear H;have H:=H1;clear H1;have H':=Aside0.mk H;clear H;go_wp2;go_meet
      case rel=>exact ⟨_,(false),qz5,H',⟨qz45⟩,⟨Kd.Rp HO_226000.out⟩,⟨Kd.Sp HO_226001.out⟩,⟨blkp BK217.out⟩,⟨blkp BK225.out⟩,⟨qz10⟩⟩
    case rest=>
     clear HC11;(try clear c4);(try clear hcz10_0);(try clear hcz10_1);(try clear hfz10_0);(try clear hfz10_1);obtain ⟨kq,x37_10,rfl,HA,HJ10,HO_226000,HO_226001,BK217,BK225,HB⟩:=hcut;cases kq with
     | zero=>exact absurd HA.out (by simp [spec_PrgRead.j1])
     | succ kj10=>
      have H:=HA.out;clear HA;simp only [spec_PrgRead.j1] at H;by_cases c16:x37_10=true
      ·subst c16
       have H1:((spec_l3Cut.f kj10 x5_1 (⟨#[97,110,100]⟩:ByteArray)).bind fun bt226=>((spec_GoalRead.f kj10 bt226.1).bind fun bt229=>(if bt229.2.2.2.2=true then (if x226001_1.length<1759218604441 then (spec_PrgRead.l0 kj10 bt226.2.1 bt226.2.2 t221 (x226001_1++[(⟨bt229.1,bt229.2.1,bt229.2.2.1,bt229.2.2.2.1⟩:S24)])) else (none)) else (some (([]:List (S63)),([]:List (S24)),false)))))=some (r1,r2,r3):=qz26;clear H;have H:=H1;clear H1;replace H:=Option.bind_eq_some_iff.mp H;obtain ⟨⟨t226,t227,t228⟩,A170,H⟩:=H;(try dsimp only at H);have A17:=Aside0.mk A170;clear A170;replace H:=Option.bind_eq_some_iff.mp H;obtain ⟨⟨t229,t230,t233,t236,t239⟩,A180,H⟩:=H;(try dsimp only at H);have A18:=Aside0.mk A180;clear A180;by_cases c19:t239=true
       ·subst c19
        have H1:(if x226001_1.length<1759218604441 then (spec_PrgRead.l0 kj10 t227 t228 t221 (x226001_1++[(⟨t229,t230,t233,t236⟩:S24)])) else (none))=some (r1,r2,r3):=qz26;clear H;have H:=H1;clear H1;by_cases c20:x226001_1.length<1759218604441
        ·rw [if_pos c20] at H
         have LMc20:=Aside0.mk c20;clear c20;obtain ⟨y241,hy241⟩:∃ y_:List (S24),y_=(x226001_1++[(⟨t229,t230,t233,t236⟩:S24)]):=⟨_,rfl⟩;replace H:(spec_PrgRead.l0 kj10 t227 t228 t221 y241)=some (r1,r2,r3):=by first|(rw [hy241];exact H)|exact H
         have Ny241:=Aside0.mk hy241;clear hy241;have H':=Aside0.mk H;clear H
         go_wp2_with (first|(go_at_call 43;(with_reducible refine (spec_l3Cut.calls kj10 x5_1 (⟨#[97,110,100]⟩:ByteArray) t226 t227 t228 _ A17.out).mono ?_);rintro e w' ⟨rfl,⟨nd,rfl⟩⟩;(try (rw [drewN_self wc];generalize hq_:World.drewN wc _=wc;have n0_:Aside0 (Kd.R k63 63 wc w.heap.size (fun _=>True) (.slice Ao7 t221.length co7) t221):=⟨by rw [← hq_];exact (Kd.Rp HO_226000.out)⟩;have n1_:Aside0 (Kd.S k24 24 wc w.heap.size (fun k_=>some k_≠(.slice Ao7 t221.length co7:Value).ownBlock) u226001 x226001_1):=⟨by rw [← hq_];exact (Kd.Sp HO_226001.out)⟩;have n2_:Aside0 (wc.heap[gb217]?=some (.cells #[.slice none 0 0,.slice none 0 0] 39 (0,0))):=⟨by rw [← hq_];exact (blkp BK217.out)⟩;have n3_:Aside0 (wc.heap[gb225]?=some (.cells #[.slice Ao7 t221.length co7,u226001] 39 (0,0))):=⟨by rw [← hq_];exact (blkp BK225.out)⟩;have n4_:Aside0 (Below w.heap.size w wc):=⟨by rw [← hq_];exact qz10⟩;clear HO_226000 HO_226001 BK217 BK225 HB hq_;have HO_226000:=n0_;have HO_226001:=n1_;have BK217:=n2_;have BK225:=n3_;have HB:=n4_;clear n0_ n1_ n2_ n3_ n4_)))|(go_at_call 6;(with_reducible refine (spec_GoalRead.calls kj10 t226 t229 t230 t233 t236 true _ A18.out).mono ?_);rintro e w21 ⟨v231,v234,v237,rfl,ho0,ho1,ho2,hb⟩;have n_:=as8 (Kd.R_mono (Kd.R_told (Kd.R_told (Kd.R_told (Kd.R_old (Kd.Rp HO_226000.out) hb) (Kd.R_base ho0)) (Kd.R_base ho1)) (Kd.R_base ho2)) (fun _ h_=>h_.1)) (Kd.S_mono (Kd.S_told (Kd.S_told (Kd.S_told (Kd.S_old (Kd.Sp HO_226001.out) hb) (Kd.R_base ho0)) (Kd.R_base ho1)) (Kd.R_base ho2)) (fun _ h_=>h_.1)) (Kd.R_lower (Kd.R_new' ho0 (Kd.R_lt (Kd.Rp HO_226000.out))) (below_size qz10)) (Kd.R_lower (Kd.R_new' ho1 (Kd.R_lt (Kd.Rp HO_226000.out))) (below_size qz10)) (Kd.R_lower (Kd.R_new' ho2 (Kd.R_lt (Kd.Rp HO_226000.out))) (below_size qz10)) (blk_below (blkp BK217.out) hb) (blk_below (blkp BK225.out) hb) (below_step qz10 hb);clear HO_226000 HO_226001 BK217 BK225 HB;obtain ⟨HO_226000,HO_226001,HO232,HO235,HO238,BK217,BK225,HB⟩:=n_;clear hb ho0 ho1 ho2)|((with_reducible refine gate_dst (N:=13) rfl ?_);(try (refine gate_guard (by rfl) ?_;dsimp only));refine box_event ?hg (N:=13) ?hd (cs:=#[.int .i64 0,.slice none 0 0,.slice none 0 0,.slice none 0 0]) (t:=24) ?hr ?_;(case hd=>rfl);(case hg=>rfl);(case hr=>first|(go_simp;done)|(go_simp;rfl));intro gb240 hg w22 hbox hb;have n_:=as14 (Kd.R_below (Kd.Rp HO_226000.out) hb) (Kd.S_below (Kd.S_elderB (Kd.Sp HO_226001.out) gb240 (Nat.le_of_eq hg.symm)) hb) (Kd.R_below (Kd.Rp HO232.out) hb) (Kd.R_below (Kd.Rp HO235.out) hb) (Kd.R_below (Kd.Rp HO238.out) hb) (blk_below (blkp BK217.out) hb) (blk_below (blkp BK225.out) hb) (below_step qz10 hb) (hbox) ((by rw [hg];exact (below_size qz10):w.heap.size≤gb240)) ((by rw [hg];exact Nat.ne_of_lt (blk_lt (blkp BK217.out)):gb217≠gb240)) ((by rw [hg];exact Nat.ne_of_gt (blk_lt (blkp BK217.out)):gb240≠gb217)) ((by rw [hg];exact Nat.ne_of_lt (blk_lt (blkp BK225.out)):gb225≠gb240)) ((by rw [hg];exact Nat.ne_of_gt (blk_lt (blkp BK225.out)):gb240≠gb225));clear HO_226000 HO_226001 HO232 HO235 HO238 BK217 BK225 HB;obtain ⟨HO_226000,HO_226001,HO232,HO235,HO238,BK217,BK225,HB,BK240,GE240,NB217_240,NB240_217,NB225_240,NB240_225⟩:=n_;clear hb hbox hg;have hnb23:=NB240_217.out;have hnc23:=NB217_240.out;have hnb24:=NB240_225.out;have hnc24:=NB225_240.out;obtain ⟨hcz25_0,hcz25_1,hcz25_2,hcz25_3,hfz25_0,hfz25_1,hfz25_2,hfz25_3⟩:=blk4 BK240.out;obtain ⟨Ao26,co26,eo26⟩:=Kd.R_slice HO232.out;subst eo26;obtain ⟨Ao27,co27,eo27⟩:=Kd.R_slice HO235.out;subst eo27;obtain ⟨Ao28,co28,eo28⟩:=Kd.R_slice HO238.out;subst eo28)|((with_reducible refine gate_store (t:=24) (p:=13) rfl ?_);refine store_event (t:=24) (p:=13) (v:=?vo_w29) (w1:=((((w22.setCell ⟨gb240,0,none⟩ (.int .i64 t229)).setCell ⟨gb240,1,none⟩ (.slice Ao26 t230.length co26)).setCell ⟨gb240,2,none⟩ (.slice Ao27 t233.length co27)).setCell ⟨gb240,3,none⟩ (.slice Ao28 t236.length co28))) ?hg ?ho ?hn ?hr ?_;(case ho=>rfl);(case hg=>rfl);(case hn=>rfl);(case hr=>first|(go_simp;done)|(go_simp;rfl));intro w29 hw;have n0_:Aside0 (Kd.R k63 63 w29 w.heap.size (fun k_=>some k_≠(.slice Ao26 t230.length co26:Value).ownBlock∧some k_≠(.slice Ao27 t233.length co27:Value).ownBlock∧some k_≠(.slice Ao28 t236.length co28:Value).ownBlock) (.slice Ao7 t221.length co7) t221):=⟨(by rw [hw];exact (Kd.Rp (Kd.R_mono (Kd.R_put4 HO_226000.out BK240.out) (fun _ hk=>⟨hk.1.1.1.2,⟨hk.1.1.2,hk.1.2⟩⟩))))⟩;have n1_:Aside0 (Kd.S k24 24 w29 w.heap.size (fun k_=>some k_≠(.slice Ao7 t221.length co7:Value).ownBlock∧some k_≠(.slice Ao26 t230.length co26:Value).ownBlock∧some k_≠(.slice Ao27 t233.length co27:Value).ownBlock∧some k_≠(.slice Ao28 t236.length co28:Value).ownBlock∧k_≠gb240) u226001 x226001_1):=⟨(by rw [hw];exact (Kd.Sp (Kd.S_mono (Kd.S_far (p:=⟨gb240,3,none⟩) (Kd.S_far (p:=⟨gb240,2,none⟩) (Kd.S_far (p:=⟨gb240,1,none⟩) (Kd.S_far (p:=⟨gb240,0,none⟩) (Kd.S_mono HO_226001.out (fun k_ hk=>(⟨hk,hk.2⟩:_∧k_≠gb240))) (fun _ hk=>hk.2) (.int .i64 t229)) (fun _ hk=>hk.2) (.slice Ao26 t230.length co26)) (fun _ hk=>hk.2) (.slice Ao27 t233.length co27)) (fun _ hk=>hk.2) (.slice Ao28 t236.length co28)) (fun _ hk=>⟨hk.1.1.1.1.1,⟨hk.1.1.1.1.2,⟨hk.1.1.1.2,⟨hk.1.1.2,hk.1.2⟩⟩⟩⟩))))⟩;have n2_:Aside0 (Kd.R k63 63 w29 w.heap.size (fun k_=>some k_≠(.slice Ao7 t221.length co7:Value).ownBlock∧some k_≠(.slice Ao27 t233.length co27:Value).ownBlock∧some k_≠(.slice Ao28 t236.length co28:Value).ownBlock) (.slice Ao26 t230.length co26) t230):=⟨(by rw [hw];exact (Kd.Rp (Kd.R_mono (Kd.R_put4 HO232.out BK240.out) (fun _ hk=>⟨hk.1.2,⟨hk.1.1.1,hk.1.1.2⟩⟩))))⟩;have n3_:Aside0 (Kd.R k63 63 w29 w.heap.size (fun k_=>some k_≠(.slice Ao7 t221.length co7:Value).ownBlock∧some k_≠(.slice Ao26 t230.length co26:Value).ownBlock∧some k_≠(.slice Ao28 t236.length co28:Value).ownBlock) (.slice Ao27 t233.length co27) t233):=⟨(by rw [hw];exact (Kd.Rp (Kd.R_mono (Kd.R_put4 HO235.out BK240.out) (fun _ hk=>⟨hk.1.2,⟨hk.1.1.1,hk.1.1.2⟩⟩))))⟩;have n4_:Aside0 (Kd.R k63 63 w29 w.heap.size (fun k_=>some k_≠(.slice Ao7 t221.length co7:Value).ownBlock∧some k_≠(.slice Ao26 t230.length co26:Value).ownBlock∧some k_≠(.slice Ao27 t233.length co27:Value).ownBlock) (.slice Ao28 t236.length co28) t236):=⟨(by rw [hw];exact (Kd.Rp (Kd.R_mono (Kd.R_put4 HO238.out BK240.out) (fun _ hk=>⟨hk.1.2,⟨hk.1.1.1,hk.1.1.2⟩⟩))))⟩;have n5_:Aside0 (w29.heap[gb217]?=some (.cells #[.slice none 0 0,.slice none 0 0] 39 (0,0))):=⟨(by rw [hw];exact (blkp (blk_far4 NB217_240.out BK217.out)))⟩;have n6_:Aside0 (w29.heap[gb225]?=some (.cells #[.slice Ao7 t221.length co7,u226001] 39 (0,0))):=⟨(by rw [hw];exact (blkp (blk_far4 NB225_240.out BK225.out)))⟩;have n7_:Aside0 (w29.heap[gb240]?=some (.cells #[.int .i64 t229,.slice Ao26 t230.length co26,.slice Ao27 t233.length co27,.slice Ao28 t236.length co28] 24 (0,0))):=⟨(by rw [hw];exact (blkp (blk_put4 BK240.out)))⟩;have n8_:Aside0 (Below w.heap.size w w29):=⟨(by rw [hw];exact qz34)⟩;clear hw HO_226000 HO_226001 HO232 HO235 HO238 BK217 BK225 BK240 HB;have HO_226000:=n0_;have HO_226001:=n1_;have HO232:=n2_;have HO235:=n3_;have HO238:=n4_;have BK217:=n5_;have BK225:=n6_;have BK240:=n7_;have HB:=n8_;clear n0_ n1_ n2_ n3_ n4_ n5_ n6_ n7_ n8_;have hnb30:=NB225_217.out;have hnc30:=NB217_225.out;obtain ⟨hcz31_0,hcz31_1,hfz31_0,hfz31_1⟩:=blk2 BK225.out;obtain ⟨hcz32_0,hcz32_1,hcz32_2,hcz32_3,hfz32_0,hfz32_1,hfz32_2,hfz32_3⟩:=blk4 BK240.out)|((with_reducible refine gate_builtin (b:=.append) (xs:=#[.tmp 53,.tmp 55]) rfl ?_);(try (refine gate_guard (by rfl) ?_;dsimp only));at_builtin;refine Kd.S_append k24 (w0:=w) w.heap.size rfl (.tmp 53) (.tmp 55) 37 24 (.agg #[(.int .i64 0),(.slice none 0 0),(.slice none 0 0),(.slice none 0 0)]) 80 rfl Tryz.underlying37 info24 rfl (by decide) (by omega) u226001 x226001_1 (⟨t229,t230,t233,t236⟩:S24) [.int .i64 t229,.slice Ao26 t230.length co26,.slice Ao27 t233.length co27,.slice Ao28 t236.length co28] (fun k_=>some k_≠(.slice Ao7 t221.length co7:Value).ownBlock∧k_≠gb240) (fun k_=>some k_=(.slice Ao26 t230.length co26:Value).ownBlock∨some k_=(.slice Ao27 t233.length co27:Value).ownBlock∨some k_=(.slice Ao28 t236.length co28:Value).ownBlock) rfl rfl ?aP (fun k_ hk_=>hk_.elim (fun h_=>((Kd.R_mono (ok':=fun k_=>((fun k_=>some k_≠(.slice Ao7 t221.length co7:Value).ownBlock∧k_≠gb240)) k_∧some k_≠(u226001:Value).ownBlock) (Kd.R_types (Kd.R_apart' (HO232.out) (Kd.S_typed HO_226001.out) (by decide)) BK240.out (by decide)) (fun k_ hk=>⟨⟨hk.1.1.1,hk.2⟩,hk.1.2⟩))).1 k_ h_.symm) (fun h_=>h_.elim (fun h_=>((Kd.R_mono (ok':=fun k_=>((fun k_=>some k_≠(.slice Ao7 t221.length co7:Value).ownBlock∧k_≠gb240)) k_∧some k_≠(u226001:Value).ownBlock) (Kd.R_types (Kd.R_apart' (HO235.out) (Kd.S_typed HO_226001.out) (by decide)) BK240.out (by decide)) (fun k_ hk=>⟨⟨hk.1.1.1,hk.2⟩,hk.1.2⟩))).1 k_ h_.symm) (fun h_=>((Kd.R_mono (ok':=fun k_=>((fun k_=>some k_≠(.slice Ao7 t221.length co7:Value).ownBlock∧k_≠gb240)) k_∧some k_≠(u226001:Value).ownBlock) (Kd.R_types (Kd.R_apart' (HO238.out) (Kd.S_typed HO_226001.out) (by decide)) BK240.out (by decide)) (fun k_ hk=>⟨⟨hk.1.1.1,hk.2⟩,hk.1.2⟩))).1 k_ h_.symm))) ?aF ?aO ?aB ?aS ?aL ?_;(case aP=>exact k24_mkM _ _ _ (⟨t229,t230,t233,t236⟩:S24) (Kd.R_mono (Kd.R_tight rfl (Kd.R_mono (ok':=fun k_=>((fun k_=>some k_≠(.slice Ao7 t221.length co7:Value).ownBlock∧k_≠gb240)) k_∧some k_≠(u226001:Value).ownBlock) (Kd.R_types (Kd.R_apart' (HO232.out) (Kd.S_typed HO_226001.out) (by decide)) BK240.out (by decide)) (fun k_ hk=>⟨⟨hk.1.1.1,hk.2⟩,hk.1.2⟩))) (fun _ h_=>Or.inl h_)) (Kd.R_mono (Kd.R_tight rfl (Kd.R_mono (ok':=fun k_=>((fun k_=>some k_≠(.slice Ao7 t221.length co7:Value).ownBlock∧k_≠gb240)) k_∧some k_≠(u226001:Value).ownBlock) (Kd.R_types (Kd.R_apart' (HO235.out) (Kd.S_typed HO_226001.out) (by decide)) BK240.out (by decide)) (fun k_ hk=>⟨⟨hk.1.1.1,hk.2⟩,hk.1.2⟩))) (fun _ h_=>Or.inr (Or.inl h_))) (Kd.R_mono (Kd.R_tight rfl (Kd.R_mono (ok':=fun k_=>((fun k_=>some k_≠(.slice Ao7 t221.length co7:Value).ownBlock∧k_≠gb240)) k_∧some k_≠(u226001:Value).ownBlock) (Kd.R_types (Kd.R_apart' (HO238.out) (Kd.S_typed HO_226001.out) (by decide)) BK240.out (by decide)) (fun k_ hk=>⟨⟨hk.1.1.1,hk.2⟩,hk.1.2⟩))) (fun _ h_=>Or.inr (Or.inr (h_)))));(case aB=>exact qz34);(case aF=>exact (fun k_ hk=>⟨Kd.fresh' (Kd.R_lt (Kd.Rp HO_226000.out)) k_ hk,Kd.freshB (g:=gb240) (o:=.cells #[.int .i64 t229,.slice Ao26 t230.length co26,.slice Ao27 t233.length co27,.slice Ao28 t236.length co28] 24 (0,0)) (blkp BK240.out) k_ hk⟩));(case aO=>exact (Kd.Sp (Kd.S_mono HO_226001.out (fun k_ hk=>⟨⟨hk.1,hk.2.2.2.2⟩,fun e_=>e_.elim (fun h_=>hk.2.1 h_) (fun h_=>h_.elim (fun h_=>hk.2.2.1 h_) (fun h_=>hk.2.2.2.1 h_))⟩))));(case aS=>exact (below_size qz34));(case aL=>have:=LMc20.out;omega);intro v242 w33 ho hb hg hat;rw [← Ny241.out] at ho;have n_:=as6 (Kd.R_over' (Kd.Rp HO_226000.out) (Kd.S_typed (Kd.Sp HO_226001.out)) (by decide) hg) (blk_grown (g:=gb217) (o:=.cells #[.slice none 0 0,.slice none 0 0] 39 (0,0)) (blkp BK217.out) hg (Kd.S_ne HO_226001.out BK217.out (by decide))) (blk_grown (g:=gb225) (o:=.cells #[.slice Ao7 t221.length co7,u226001] 39 (0,0)) (blkp BK225.out) hg (Kd.S_ne HO_226001.out BK225.out (by decide))) (blk_grown (g:=gb240) (o:=.cells #[.int .i64 t229,.slice Ao26 t230.length co26,.slice Ao27 t233.length co27,.slice Ao28 t236.length co28] 24 (0,0)) (blkp BK240.out) hg (Kd.S_away HO_226001.out (fun _ hk=>hk.2.2.2.2))) (hb) (ho);clear HO_226000 BK217 BK225 BK240 HB HO_226001 HO232 HO235 HO238;obtain ⟨HO_226000,BK217,BK225,BK240,HB,HO243⟩:=n_;clear ho hb hg hat;obtain ⟨Ao34,co34,eo34⟩:=Kd.S_slice HO243.out;subst eo34;obtain ⟨hcz35_0,hcz35_1,hfz35_0,hfz35_1⟩:=blk2 BK225.out))
         go_roundg kj10
         case measure=>have:=HK1.out;have:=HJ10.out;omega
         case rel=>exact ⟨(t227),(t228),(y241),(.slice Ao34 y241.length co34),qz5,qz5,H',⟨by have:=HK1.out;have:=HJ10.out;omega⟩,⟨Kd.Rp (Kd.R_mono (Kd.R_put1 HO_226000.out BK225.out) (fun _ hk=>trivial))⟩,⟨Kd.Sp (Kd.S_mono (Kd.S_far (p:=⟨gb225,1,none⟩) (Kd.S_types HO243.out BK225.out (by decide)) (fun _ hk=>hk.2) (.slice Ao34 y241.length co34)) (fun _ hk=>hk.1.1))⟩,⟨blkp (blk_far BK217.out NB217_225.out _)⟩,⟨blkp (blk_put (cs:=#[.slice Ao7 t221.length co7,u226001]) BK225.out 1 _ rfl)⟩,⟨qz34⟩⟩
        ·rw [if_neg c20] at H
         exact absurd H (by simp)
       ·replace c19:=Bool.eq_false_iff.mpr c19
        subst c19;have H1:(some (([]:List (S63)),([]:List (S24)),false))=some (r1,r2,r3):=qz15;clear H;have H:=H1;clear H1;simp only [Option.some.injEq,Prod.mk.injEq] at H;obtain ⟨rfl,rfl,rfl⟩:=H
        go_wp2_with (first|(go_at_call 43;(with_reducible refine (spec_l3Cut.calls kj10 x5_1 (⟨#[97,110,100]⟩:ByteArray) t226 t227 t228 _ A17.out).mono ?_);rintro e w' ⟨rfl,⟨nd,rfl⟩⟩;(try (rw [drewN_self wc];generalize hq_:World.drewN wc _=wc;have n0_:Aside0 (Kd.R k63 63 wc w.heap.size (fun _=>True) (.slice Ao7 t221.length co7) t221):=⟨by rw [← hq_];exact (Kd.Rp HO_226000.out)⟩;have n1_:Aside0 (Kd.S k24 24 wc w.heap.size (fun k_=>some k_≠(.slice Ao7 t221.length co7:Value).ownBlock) u226001 x226001_1):=⟨by rw [← hq_];exact (Kd.Sp HO_226001.out)⟩;have n2_:Aside0 (wc.heap[gb217]?=some (.cells #[.slice none 0 0,.slice none 0 0] 39 (0,0))):=⟨by rw [← hq_];exact (blkp BK217.out)⟩;have n3_:Aside0 (wc.heap[gb225]?=some (.cells #[.slice Ao7 t221.length co7,u226001] 39 (0,0))):=⟨by rw [← hq_];exact (blkp BK225.out)⟩;have n4_:Aside0 (Below w.heap.size w wc):=⟨by rw [← hq_];exact qz10⟩;clear HO_226000 HO_226001 BK217 BK225 HB hq_;have HO_226000:=n0_;have HO_226001:=n1_;have BK217:=n2_;have BK225:=n3_;have HB:=n4_;clear n0_ n1_ n2_ n3_ n4_)))|(go_at_call 6;(with_reducible refine (spec_GoalRead.calls kj10 t226 t229 t230 t233 t236 false _ A18.out).mono ?_);rintro e w36 ⟨v231,v234,v237,rfl,ho0,ho1,ho2,hb⟩;have n_:=as8 (Kd.R_mono (Kd.R_told (Kd.R_told (Kd.R_told (Kd.R_old (Kd.Rp HO_226000.out) hb) (Kd.R_base ho0)) (Kd.R_base ho1)) (Kd.R_base ho2)) (fun _ h_=>h_.1)) (Kd.S_mono (Kd.S_told (Kd.S_told (Kd.S_told (Kd.S_old (Kd.Sp HO_226001.out) hb) (Kd.R_base ho0)) (Kd.R_base ho1)) (Kd.R_base ho2)) (fun _ h_=>h_.1)) (Kd.R_lower (Kd.R_new' ho0 (Kd.R_lt (Kd.Rp HO_226000.out))) (below_size qz10)) (Kd.R_lower (Kd.R_new' ho1 (Kd.R_lt (Kd.Rp HO_226000.out))) (below_size qz10)) (Kd.R_lower (Kd.R_new' ho2 (Kd.R_lt (Kd.Rp HO_226000.out))) (below_size qz10)) (blk_below (blkp BK217.out) hb) (blk_below (blkp BK225.out) hb) (below_step qz10 hb);clear HO_226000 HO_226001 BK217 BK225 HB;obtain ⟨HO_226000,HO_226001,HO232,HO235,HO238,BK217,BK225,HB⟩:=n_;clear hb ho0 ho1 ho2)|((with_reducible refine gate_dst (N:=13) rfl ?_);(try (refine gate_guard (by rfl) ?_;dsimp only));refine box_event ?hg (N:=13) ?hd (cs:=#[.int .i64 0,.slice none 0 0,.slice none 0 0,.slice none 0 0]) (t:=24) ?hr ?_;(case hd=>rfl);(case hg=>rfl);(case hr=>first|(go_simp;done)|(go_simp;rfl));intro gb240 hg w37 hbox hb;have n_:=as14 (Kd.R_below (Kd.Rp HO_226000.out) hb) (Kd.S_below (Kd.S_elderB (Kd.Sp HO_226001.out) gb240 (Nat.le_of_eq hg.symm)) hb) (Kd.R_below (Kd.Rp HO232.out) hb) (Kd.R_below (Kd.Rp HO235.out) hb) (Kd.R_below (Kd.Rp HO238.out) hb) (blk_below (blkp BK217.out) hb) (blk_below (blkp BK225.out) hb) (below_step qz10 hb) (hbox) ((by rw [hg];exact (below_size qz10):w.heap.size≤gb240)) ((by rw [hg];exact Nat.ne_of_lt (blk_lt (blkp BK217.out)):gb217≠gb240)) ((by rw [hg];exact Nat.ne_of_gt (blk_lt (blkp BK217.out)):gb240≠gb217)) ((by rw [hg];exact Nat.ne_of_lt (blk_lt (blkp BK225.out)):gb225≠gb240)) ((by rw [hg];exact Nat.ne_of_gt (blk_lt (blkp BK225.out)):gb240≠gb225));clear HO_226000 HO_226001 HO232 HO235 HO238 BK217 BK225 HB;obtain ⟨HO_226000,HO_226001,HO232,HO235,HO238,BK217,BK225,HB,BK240,GE240,NB217_240,NB240_217,NB225_240,NB240_225⟩:=n_;clear hb hbox hg;have hnb38:=NB240_217.out;have hnc38:=NB217_240.out;have hnb39:=NB240_225.out;have hnc39:=NB225_240.out;obtain ⟨hcz40_0,hcz40_1,hcz40_2,hcz40_3,hfz40_0,hfz40_1,hfz40_2,hfz40_3⟩:=blk4 BK240.out;obtain ⟨Ao41,co41,eo41⟩:=Kd.R_slice HO232.out;subst eo41;obtain ⟨Ao42,co42,eo42⟩:=Kd.R_slice HO235.out;subst eo42;obtain ⟨Ao43,co43,eo43⟩:=Kd.R_slice HO238.out;subst eo43;have hnb44:=NB217_225.out;have hnc44:=NB225_217.out;obtain ⟨hcz45_0,hcz45_1,hfz45_0,hfz45_1⟩:=blk2 BK217.out))
        refine bodyPost_ret (results_ct rfl _ _ gb217 39 #[.slice none 0 0,.slice none 0 0] (0,0) _ rfl (blkp (blk_put2 (blk_far4 NB217_240.out BK217.out))) Tryz.underlying39 rfl (by kernel_rfl)) rfl ?_;exact ⟨_,_,qz2,qz17,qz29,qz34⟩
      ·replace c16:=Bool.eq_false_iff.mpr c16
       subst c16;have H1:((spec_l3Clause.f kj10 t221 x226001_1).bind fun t244=>(if t244=true then (some (t221,x226001_1,true)) else (some (([]:List (S63)),([]:List (S24)),false))))=some (r1,r2,r3):=qz15;clear H;have H:=H1;clear H1;replace H:=Option.bind_eq_some_iff.mp H;obtain ⟨t244,A460,H⟩:=H;(try dsimp only at H);have A46:=Aside0.mk A460;clear A460;by_cases c47:t244=true
       ·subst c47
        have H1:(some (t221,x226001_1,true))=some (r1,r2,r3):=qz26;clear H;have H:=H1;clear H1;simp only [Option.some.injEq,Prod.mk.injEq] at H;obtain ⟨rfl,rfl,rfl⟩:=H;have hnb48:=NB225_217.out;have hnc48:=NB217_225.out;obtain ⟨hcz49_0,hcz49_1,hfz49_0,hfz49_1⟩:=blk2 BK225.out;obtain ⟨Ao50,co50,eo50⟩:=Kd.S_slice HO_226001.out;subst eo50
        go_wp2_with (first|(go_at_call 45;(with_reducible refine (spec_l3Clause.calls kj10 _ _ t221 _ _ x226001_1 true _ ?side1 ?side2 ?side3 ?side4 A46.out).mono ?_);(case side1=>exact qz61);(case side2=>exact (Kd.R_reads' HO_226000.out).2.1);(case side3=>exact qz60);(case side4=>exact (Kd.S_reads' HO_226001.out).2.1);rintro e w51 ⟨rfl,hb⟩;have n_:=as5 (Kd.R_below (Kd.Rp HO_226000.out) hb) (Kd.S_below (Kd.Sp HO_226001.out) hb) (blk_below (blkp BK217.out) hb) (blk_below (blkp BK225.out) hb) (below_step qz10 hb);clear HO_226000 HO_226001 BK217 BK225 HB;obtain ⟨HO_226000,HO_226001,BK217,BK225,HB⟩:=n_;clear hb;obtain ⟨hcz52_0,hcz52_1,hfz52_0,hfz52_1⟩:=blk2 BK225.out;obtain ⟨hcz53_0,hcz53_1,hfz53_0,hfz53_1⟩:=blk2 BK217.out))
        refine bodyPost_ret (results_ct rfl _ _ gb217 39 #[.slice Ao7 t221.length co7,.slice Ao50 x226001_1.length co50] (0,0) _ rfl (blkp (blk_put2 BK217.out)) Tryz.underlying39 rfl (by kernel_rfl)) rfl ?_;exact ⟨_,_,qz2,by (with_reducible repeat (first|apply Kd.R_alloc|apply Kd.R_drewN|apply Kd.R_drew));exact Kd.R_mono (Kd.R_put2 HO_226000.out BK217.out) (fun _ hk=>trivial),by (with_reducible repeat (first|apply Kd.S_alloc|apply Kd.S_drewN|apply Kd.S_drew));exact Kd.S_mono (Kd.S_far (p:=⟨gb217,1,none⟩) (Kd.S_far (p:=⟨gb217,0,none⟩) (Kd.S_types HO_226001.out BK217.out (by decide)) (fun _ hk=>hk.2) (.slice Ao7 t221.length co7)) (fun _ hk=>hk.2) (.slice Ao50 x226001_1.length co50)) (fun _ hk=>hk.1),qz10⟩
       ·replace c47:=Bool.eq_false_iff.mpr c47
        subst c47;have H1:(some (([]:List (S63)),([]:List (S24)),false))=some (r1,r2,r3):=qz15;clear H;have H:=H1;clear H1;simp only [Option.some.injEq,Prod.mk.injEq] at H;obtain ⟨rfl,rfl,rfl⟩:=H;have hnb54:=NB225_217.out;have hnc54:=NB217_225.out;obtain ⟨hcz55_0,hcz55_1,hfz55_0,hfz55_1⟩:=blk2 BK225.out;obtain ⟨Ao56,co56,eo56⟩:=Kd.S_slice HO_226001.out;subst eo56
        go_wp2_with (first|(go_at_call 45;(with_reducible refine (spec_l3Clause.calls kj10 _ _ t221 _ _ x226001_1 false _ ?side1 ?side2 ?side3 ?side4 A46.out).mono ?_);(case side1=>exact qz61);(case side2=>exact (Kd.R_reads' HO_226000.out).2.1);(case side3=>exact qz60);(case side4=>exact (Kd.S_reads' HO_226001.out).2.1);rintro e w57 ⟨rfl,hb⟩;have n_:=as5 (Kd.R_below (Kd.Rp HO_226000.out) hb) (Kd.S_below (Kd.Sp HO_226001.out) hb) (blk_below (blkp BK217.out) hb) (blk_below (blkp BK225.out) hb) (below_step qz10 hb);clear HO_226000 HO_226001 BK217 BK225 HB;obtain ⟨HO_226000,HO_226001,BK217,BK225,HB⟩:=n_;clear hb;obtain ⟨hcz58_0,hcz58_1,hfz58_0,hfz58_1⟩:=blk2 BK217.out))
        refine bodyPost_ret (results_ct rfl _ _ gb217 39 #[.slice none 0 0,.slice none 0 0] (0,0) _ rfl (blkp (blk_put2 BK217.out)) Tryz.underlying39 rfl (by kernel_rfl)) rfl ?_;exact ⟨_,_,qz2,qz17,qz29,qz10⟩
 ·replace c4:=Bool.eq_false_iff.mpr c4
  subst c4;have H1:(some (([]:List (S63)),([]:List (S24)),false))=some (r1,r2,r3):=qz15;clear H;have H:=H1;clear H1;simp only [Option.some.injEq,Prod.mk.injEq] at H;obtain ⟨rfl,rfl,rfl⟩:=H;go_enter Tryz.func19,Tryz.ntmps19
  go_wp2_with (first|((with_reducible refine gate_dst (N:=2) rfl ?_);(try (refine gate_guard (by rfl) ?_;dsimp only));refine box_event ?hg (N:=2) ?hd (cs:=#[.slice none 0 0,.slice none 0 0]) (t:=39) ?hr ?_;(case hd=>rfl);(case hg=>rfl);(case hr=>first|(go_simp;done)|(go_simp;rfl));intro gb217 hg w59 hbox hb;have n_:=as3 (below_step qz3 hb) (hbox) ((by rw [hg];exact (below_size qz3):w.heap.size≤gb217));clear HB;obtain ⟨HB,BK217,GE217⟩:=n_;clear hb hbox hg)|(go_at_call 43;(with_reducible refine (spec_l3Cut.calls k a0 (⟨#[105,102]⟩:ByteArray) t218 t219 t220 _ A2.out).mono ?_);rintro e w' ⟨rfl,⟨nd,rfl⟩⟩;(try (rw [drewN_self w59];generalize hq_:World.drewN w59 _=w59;have n0_:Aside0 (w59.heap[gb217]?=some (.cells #[.slice none 0 0,.slice none 0 0] 39 (0,0))):=⟨by rw [← hq_];exact (blkp BK217.out)⟩;have n1_:Aside0 (Below w.heap.size w w59):=⟨by rw [← hq_];exact qz27⟩;clear BK217 HB hq_;have BK217:=n0_;have HB:=n1_;clear n0_ n1_)))|(go_at_call 44;(with_reducible refine (spec_TrmRead.calls k t218 t221 false _ A3.out).mono ?_);rintro e w60 ⟨v223,rfl,ho0,hb⟩;have n_:=as3 (Kd.R_lower ho0 (below_size qz27)) (blk_below (blkp BK217.out) hb) (below_step qz27 hb);clear BK217 HB;obtain ⟨HO224,BK217,HB⟩:=n_;clear hb ho0;obtain ⟨Ao61,co61,eo61⟩:=Kd.R_slice HO224.out;subst eo61)|((with_reducible refine gate_dst (N:=9) rfl ?_);(try (refine gate_guard (by rfl) ?_;dsimp only));refine box_event ?hg (N:=9) ?hd (cs:=#[.slice none 0 0,.slice none 0 0]) (t:=39) ?hr ?_;(case hd=>rfl);(case hg=>rfl);(case hr=>first|(go_simp;done)|(go_simp;rfl));intro gb225 hg w62 hbox hb;have n_:=as7 (Kd.R_below (Kd.Rp HO224.out) hb) (blk_below (blkp BK217.out) hb) (below_step qz27 hb) (hbox) ((by rw [hg];exact (below_size qz27):w.heap.size≤gb225)) ((by rw [hg];exact Nat.ne_of_lt (blk_lt (blkp BK217.out)):gb217≠gb225)) ((by rw [hg];exact Nat.ne_of_gt (blk_lt (blkp BK217.out)):gb225≠gb217));clear HO224 BK217 HB;obtain ⟨HO224,BK217,HB,BK225,GE225,NB217_225,NB225_217⟩:=n_;clear hb hbox hg;have hnb63:=NB225_217.out;have hnc63:=NB217_225.out;obtain ⟨hcz64_0,hcz64_1,hfz64_0,hfz64_1⟩:=blk2 BK225.out;obtain ⟨hcz65_0,hcz65_1,hfz65_0,hfz65_1⟩:=blk2 BK217.out))
  refine bodyPost_ret (results_ct rfl _ _ gb217 39 #[.slice none 0 0,.slice none 0 0] (0,0) _ rfl (blkp (blk_put2 (blk_far2 NB217_225.out BK217.out))) Tryz.underlying39 rfl (by kernel_rfl)) rfl ?_;exact ⟨_,_,qz2,qz17,qz29,qz10⟩

/-! ### impl_in: function 68 -/
def impl_in.f (a0:Int) (a1:Int) (a2:Int):Option (Bool):=if a0≥a1 then (some (decide (a0≤a2))) else (some false)
set_option maxHeartbeats 8000000 in
set_option maxRecDepth 100000 in
theorem impl_in.calls (a0:Int) (a1:Int) (a2:Int) (r:Bool) (w:World) (h:impl_in.f a0 a1 a2=some r) :
  Calls Tryz.prog 68 #[.int .i64 a0,.int .i64 a1,.int .i64 a2] w fun e w'=>e = .returned (.bool r)∧Drawn0 w w':=by
 have H:(if a0≥a1 then (some (decide (a0≤a2))) else (some false))=some r:=h;clear h;by_cases c4:a0≥a1
 ·rw [if_pos c4] at H
  have c4b0:decide (a1≤a0)=true:=decide_eq_true c4;clear c4;obtain rfl:=Option.some.inj H;go_enter Tryz.func68,Tryz.ntmps68;go_wp2;go_ret;exact ⟨qz5,qz20⟩
 ·rw [if_neg c4] at H
  have c4b0:decide (a1≤a0)=false:=decide_eq_false c4;clear c4;obtain rfl:=Option.some.inj H;go_enter Tryz.func68,Tryz.ntmps68;go_wp2;go_ret;exact ⟨qz5,qz20⟩

/-! ### strings_Trim: function 111 -/
/-- strings.Trim at an ASCII cutset: the shelf's. -/
def strings_Trim.f (a0:ByteArray) (a1:ByteArray):Option (ByteArray):=if a0.size≤9223372036854775807 then (if a1.size<4294967281 then (if a1.data.toList.all (fun b=>decide (b.toNat<128)) then some (⟨(Lib.trimS a0.data.toList a1.data.toList).toArray⟩:ByteArray) else none) else none) else none
theorem strings_Trim.calls (a0:ByteArray) (a1:ByteArray) (r:ByteArray) (w:World) (h:strings_Trim.f a0 a1=some r) :
  Calls Tryz.prog 111 #[.string a0,.string a1] w fun e w'=>e = .returned (.string r)∧Below w.heap.size w w':=by
 unfold strings_Trim.f at h;by_cases h1:a0.size≤9223372036854775807
 case neg=>rw [if_neg h1] at h;cases h
 rw [if_pos h1] at h;by_cases h2:a1.size<4294967281
 case neg=>rw [if_neg h2] at h;cases h
 rw [if_pos h2] at h;by_cases h3:a1.data.toList.all (fun b=>decide (b.toNat<128))=true
 case neg=>rw [if_neg h3] at h;cases h
 rw [if_pos h3] at h;obtain rfl:=Option.some.inj h;refine Tryz.trim_set a0 a1 w h1 h2 ?_;intro j b hj;have:=List.all_eq_true.1 h3 b (List.mem_of_getElem? hj)
 simpa using this

/-! ### impl_nameOk: function 93 -/
def impl_nameOk.f (a0:ByteArray):Option (Bool):=(impl_in.f (a0.size:Int) 1 8).bind fun t245=>(if t245=true then ((strings_Trim.f a0 (⟨#[97,98,99,100,101,102,103,104,105,106,107,108,109,110,111,112,113,114,115,116,117,118,119,120,121,122]⟩:ByteArray)).bind fun t246=>(if t246.toList=([]:List UInt8) then (some (a0.toList != ([97,110,100]:List UInt8))) else (some false))) else (some false))
set_option maxHeartbeats 8000000 in
set_option maxRecDepth 100000 in
theorem impl_nameOk.calls (a0:ByteArray) (r:Bool) (w:World) (h:impl_nameOk.f a0=some r) :
  Calls Tryz.prog 93 #[.string a0] w fun e w'=>e = .returned (.bool r)∧Below w.heap.size w w':=by
 have HB:=Aside0.mk (Below.refl w.heap.size w);have H:((impl_in.f (a0.size:Int) 1 8).bind fun t245=>(if t245=true then ((strings_Trim.f a0 (⟨#[97,98,99,100,101,102,103,104,105,106,107,108,109,110,111,112,113,114,115,116,117,118,119,120,121,122]⟩:ByteArray)).bind fun t246=>(if t246.toList=([]:List UInt8) then (some (a0.toList != ([97,110,100]:List UInt8))) else (some false))) else (some false)))=some r:=h;clear h;replace H:=Option.bind_eq_some_iff.mp H;obtain ⟨t245,A20,H⟩:=H;(try dsimp only at H);have A2:=Aside0.mk A20;clear A20;by_cases c3:t245=true
 ·subst c3
  have H1:((strings_Trim.f a0 (⟨#[97,98,99,100,101,102,103,104,105,106,107,108,109,110,111,112,113,114,115,116,117,118,119,120,121,122]⟩:ByteArray)).bind fun t246=>(if t246.toList=([]:List UInt8) then (some (a0.toList != ([97,110,100]:List UInt8))) else (some false)))=some r:=qz26;clear H;have H:=H1;clear H1;replace H:=Option.bind_eq_some_iff.mp H;obtain ⟨t246,A40,H⟩:=H;(try dsimp only at H);have A4:=Aside0.mk A40;clear A40;by_cases c5:t246.toList=([]:List UInt8)
  ·rw [if_pos c5] at H
   have c5b0:(t246.toList == ([]:List UInt8))=true:=beq_iff_eq.mpr c5;have c5b1:(t246.toList != ([]:List UInt8))=false:=bne_eq_false_iff_eq.mpr c5;clear c5;obtain rfl:=Option.some.inj H;go_enter Tryz.func93,Tryz.ntmps93
   go_wp2_with (first|(go_at_call 68;(with_reducible refine (impl_in.calls (a0.size:Int) 1 8 true _ A2.out).mono ?_);rintro e w' ⟨rfl,⟨nd,rfl⟩⟩)|(go_at_call 111;(with_reducible refine (strings_Trim.calls a0 (⟨#[97,98,99,100,101,102,103,104,105,106,107,108,109,110,111,112,113,114,115,116,117,118,119,120,121,122]⟩:ByteArray) t246 _ A4.out).mono ?_);rintro e w6 ⟨rfl,hb⟩;have n0_:=Aside0.mk (below_step qz3 hb);clear HB;have HB:=n0_;clear n0_ hb))
   go_ret;exact ⟨qz2,qz1⟩
  ·rw [if_neg c5] at H
   have c5b0:(t246.toList == ([]:List UInt8))=false:=beq_eq_false_iff_ne.mpr c5;have c5b1:(t246.toList != ([]:List UInt8))=true:=bne_iff_ne.mpr c5;obtain rfl:=Option.some.inj H;go_enter Tryz.func93,Tryz.ntmps93
   go_wp2_with (first|(go_at_call 68;(with_reducible refine (impl_in.calls (a0.size:Int) 1 8 true _ A2.out).mono ?_);rintro e w' ⟨rfl,⟨nd,rfl⟩⟩)|(go_at_call 111;(with_reducible refine (strings_Trim.calls a0 (⟨#[97,98,99,100,101,102,103,104,105,106,107,108,109,110,111,112,113,114,115,116,117,118,119,120,121,122]⟩:ByteArray) t246 _ A4.out).mono ?_);rintro e w7 ⟨rfl,hb⟩;have n0_:=Aside0.mk (below_step qz3 hb);clear HB;have HB:=n0_;clear n0_ hb))
   go_ret;exact ⟨qz2,qz1⟩
 ·replace c3:=Bool.eq_false_iff.mpr c3
  subst c3;have H1:(some false)=some r:=qz15;clear H;have H:=H1;clear H1;obtain rfl:=Option.some.inj H;go_enter Tryz.func93,Tryz.ntmps93
  go_wp2_with (first|(go_at_call 68;(with_reducible refine (impl_in.calls (a0.size:Int) 1 8 false _ A2.out).mono ?_);rintro e w' ⟨rfl,⟨nd,rfl⟩⟩))
  go_ret;exact ⟨qz2,qz1⟩

/-! ### impl_TrmCell_ok: function 67 -/
def impl_TrmCell_ok.f (a0_0:Int) (a0_1:Int) (a0_2:ByteArray):Option (Bool):=if a0_0=1 then ((impl_in.f a0_1 0 99999).bind fun t248=>(if t248=true then (some (a0_2.toList == ([]:List UInt8))) else (some false))) else (if a0_0=2 then ((impl_in.f a0_1 (-9999) 9999).bind fun t249=>(if t249=true then (some (a0_2.toList == ([]:List UInt8))) else (some false))) else (if a0_0=3 then ((impl_in.f a0_1 0 3).bind fun t250=>(if t250=true then ((impl_nameOk.f a0_2).bind fun t251=>(some t251)) else (some false))) else (some false)))
set_option maxHeartbeats 8000000 in
set_option maxRecDepth 100000 in
theorem impl_TrmCell_ok.calls (a0_0:Int) (a0_1:Int) (a0_2:ByteArray) (r:Bool) (w:World) (h:impl_TrmCell_ok.f a0_0 a0_1 a0_2=some r) :
  Calls Tryz.prog 67 #[.agg #[.int .i64 a0_0,.int .i64 a0_1,.string a0_2]] w fun e w'=>e = .returned (.bool r)∧Below w.heap.size w w':=by
 have hu63:=Tryz.underlying63;have HB:=Aside0.mk (Below.refl w.heap.size w);have H:(if a0_0=1 then ((impl_in.f a0_1 0 99999).bind fun t248=>(if t248=true then (some (a0_2.toList == ([]:List UInt8))) else (some false))) else (if a0_0=2 then ((impl_in.f a0_1 (-9999) 9999).bind fun t249=>(if t249=true then (some (a0_2.toList == ([]:List UInt8))) else (some false))) else (if a0_0=3 then ((impl_in.f a0_1 0 3).bind fun t250=>(if t250=true then ((impl_nameOk.f a0_2).bind fun t251=>(some t251)) else (some false))) else (some false))))=some r:=h;clear h;have HC2:=Aside0.mk H;clear H;go_enter Tryz.func67,Tryz.ntmps67;go_upto_if 5 with (first|((with_reducible refine gate_dst (N:=1) rfl ?_);refine box_event ?hg (N:=1) ?hd (cs:=#[.int .i64 a0_0,.int .i64 a0_1,.string a0_2]) (t:=63) ?hr ?_;(case hd=>rfl);(case hg=>rfl);(case hr=>first|(go_simp;done)|(go_simp;rfl));intro gb247 hg w3 hbox hb;have n_:=as3 (below_step qz3 hb) (hbox) ((by rw [hg];exact (below_size qz3):w.heap.size≤gb247));clear HB;obtain ⟨HB,BK247,GE247⟩:=n_;clear hb hbox hg;obtain ⟨hcz4_0,hcz4_1,hcz4_2,hfz4_0,hfz4_1,hfz4_2⟩:=blk3 BK247.out))
 (try simp only [Act.put,sA_,sZ_,sS_]);have H:=HC2.out;clear HC2;by_cases c5:a0_0=1
 ·rw [if_pos c5] at H
  have c5b0:(a0_0 == 1)=true:=beq_iff_eq.mpr c5;have c5b1:(a0_0 != 1)=false:=bne_eq_false_iff_eq.mpr c5;clear c5;(first|rw [c5b0]|rw [c5b1]|(simp only [i64_w,i32_w];rw [c5b0])|skip);replace H:=Option.bind_eq_some_iff.mp H;obtain ⟨t248,A60,H⟩:=H;(try dsimp only at H);have A6:=Aside0.mk A60;clear A60;by_cases c7:t248=true
  ·subst c7
   have H1:(some (a0_2.toList == ([]:List UInt8)))=some r:=qz26;clear H;have H:=H1;clear H1;obtain rfl:=Option.some.inj H;obtain ⟨hcz8_0,hcz8_1,hcz8_2,hfz8_0,hfz8_1,hfz8_2⟩:=blk3 BK247.out
   go_wp2_with (first|(go_at_call 68;(with_reducible refine (impl_in.calls a0_1 0 99999 true _ A6.out).mono ?_);rintro e w' ⟨rfl,⟨nd,rfl⟩⟩))
   go_ret;exact ⟨qz2,qz31⟩
  ·replace c7:=Bool.eq_false_iff.mpr c7
   subst c7;have H1:(some false)=some r:=qz15;clear H;have H:=H1;clear H1;obtain rfl:=Option.some.inj H;obtain ⟨hcz9_0,hcz9_1,hcz9_2,hfz9_0,hfz9_1,hfz9_2⟩:=blk3 BK247.out
   go_wp2_with (first|(go_at_call 68;(with_reducible refine (impl_in.calls a0_1 0 99999 false _ A6.out).mono ?_);rintro e w' ⟨rfl,⟨nd,rfl⟩⟩))
   go_ret;exact ⟨qz2,qz31⟩
 ·rw [if_neg c5] at H
  have c5b0:(a0_0 == 1)=false:=beq_eq_false_iff_ne.mpr c5;have c5b1:(a0_0 != 1)=true:=bne_iff_ne.mpr c5;(first|rw [c5b0]|rw [c5b1]|(simp only [i64_w,i32_w];rw [c5b0])|skip);by_cases c10:a0_0=2
  ·rw [if_pos c10] at H
   have c10b0:(a0_0 == 2)=true:=beq_iff_eq.mpr c10;have c10b1:(a0_0 != 2)=false:=bne_eq_false_iff_eq.mpr c10;clear c10;replace H:=Option.bind_eq_some_iff.mp H;obtain ⟨t249,A110,H⟩:=H;(try dsimp only at H);have A11:=Aside0.mk A110;clear A110;by_cases c12:t249=true
   ·subst c12
    have H1:(some (a0_2.toList == ([]:List UInt8)))=some r:=qz26;clear H;have H:=H1;clear H1;obtain rfl:=Option.some.inj H;obtain ⟨hcz13_0,hcz13_1,hcz13_2,hfz13_0,hfz13_1,hfz13_2⟩:=blk3 BK247.out
    go_wp2_with (first|(go_at_call 68;(with_reducible refine (impl_in.calls a0_1 (-9999) 9999 true _ A11.out).mono ?_);rintro e w' ⟨rfl,⟨nd,rfl⟩⟩))
    go_ret;exact ⟨qz2,qz31⟩
   ·replace c12:=Bool.eq_false_iff.mpr c12
    subst c12;have H1:(some false)=some r:=qz15;clear H;have H:=H1;clear H1;obtain rfl:=Option.some.inj H;obtain ⟨hcz14_0,hcz14_1,hcz14_2,hfz14_0,hfz14_1,hfz14_2⟩:=blk3 BK247.out
    go_wp2_with (first|(go_at_call 68;(with_reducible refine (impl_in.calls a0_1 (-9999) 9999 false _ A11.out).mono ?_);rintro e w' ⟨rfl,⟨nd,rfl⟩⟩))
    go_ret;exact ⟨qz2,qz31⟩
  ·rw [if_neg c10] at H
   have c10b0:(a0_0 == 2)=false:=beq_eq_false_iff_ne.mpr c10;have c10b1:(a0_0 != 2)=true:=bne_iff_ne.mpr c10;by_cases c15:a0_0=3
   ·rw [if_pos c15] at H
    have c15b0:(a0_0 == 3)=true:=beq_iff_eq.mpr c15;have c15b1:(a0_0 != 3)=false:=bne_eq_false_iff_eq.mpr c15;clear c15;replace H:=Option.bind_eq_some_iff.mp H;obtain ⟨t250,A160,H⟩:=H;(try dsimp only at H);have A16:=Aside0.mk A160;clear A160;by_cases c17:t250=true
    ·subst c17
     have H1:((impl_nameOk.f a0_2).bind fun t251=>(some t251))=some r:=qz26;clear H;have H:=H1;clear H1;replace H:=Option.bind_eq_some_iff.mp H;obtain ⟨t251,A180,H⟩:=H;(try dsimp only at H);have A18:=Aside0.mk A180;clear A180;obtain rfl:=Option.some.inj H;obtain ⟨hcz19_0,hcz19_1,hcz19_2,hfz19_0,hfz19_1,hfz19_2⟩:=blk3 BK247.out
     go_wp2_with (first|(go_at_call 68;(with_reducible refine (impl_in.calls a0_1 0 3 true _ A16.out).mono ?_);rintro e w' ⟨rfl,⟨nd,rfl⟩⟩)|(go_at_call 93;(with_reducible refine (impl_nameOk.calls a0_2 t251 _ A18.out).mono ?_);rintro e w20 ⟨rfl,hb⟩;have n_:=as2 (blk_below (blkp BK247.out) hb) (below_step qz31 hb);clear BK247 HB;obtain ⟨BK247,HB⟩:=n_;clear hb))
     go_ret;exact ⟨qz2,qz31⟩
    ·replace c17:=Bool.eq_false_iff.mpr c17
     subst c17;have H1:(some false)=some r:=qz15;clear H;have H:=H1;clear H1;obtain rfl:=Option.some.inj H;obtain ⟨hcz21_0,hcz21_1,hcz21_2,hfz21_0,hfz21_1,hfz21_2⟩:=blk3 BK247.out
     go_wp2_with (first|(go_at_call 68;(with_reducible refine (impl_in.calls a0_1 0 3 false _ A16.out).mono ?_);rintro e w' ⟨rfl,⟨nd,rfl⟩⟩))
     go_ret;exact ⟨qz2,qz31⟩
   ·rw [if_neg c15] at H
    have c15b0:(a0_0 == 3)=false:=beq_eq_false_iff_ne.mpr c15;have c15b1:(a0_0 != 3)=true:=bne_iff_ne.mpr c15;obtain rfl:=Option.some.inj H;go_wp2;go_ret;exact ⟨qz2,qz31⟩

/-! ### impl_TrmCell_arity: function 88 -/
def impl_TrmCell_arity.f (a0_0:Int) (a0_1:Int) (a0_2:ByteArray):Option (Int):=if a0_0=3 then (some a0_1) else (some 0)
set_option maxHeartbeats 8000000 in
set_option maxRecDepth 100000 in
theorem impl_TrmCell_arity.calls (a0_0:Int) (a0_1:Int) (a0_2:ByteArray) (r:Int) (w:World) (h:impl_TrmCell_arity.f a0_0 a0_1 a0_2=some r) :
  Calls Tryz.prog 88 #[.agg #[.int .i64 a0_0,.int .i64 a0_1,.string a0_2]] w fun e w'=>e = .returned (.int .i64 r)∧Below w.heap.size w w':=by
 have hu63:=Tryz.underlying63;have HB:=Aside0.mk (Below.refl w.heap.size w);have H:(if a0_0=3 then (some a0_1) else (some 0))=some r:=h;clear h;have HC2:=Aside0.mk H;clear H;go_enter Tryz.func88,Tryz.ntmps88;go_upto_if 5 with (first|((with_reducible refine gate_dst (N:=1) rfl ?_);refine box_event ?hg (N:=1) ?hd (cs:=#[.int .i64 a0_0,.int .i64 a0_1,.string a0_2]) (t:=63) ?hr ?_;(case hd=>rfl);(case hg=>rfl);(case hr=>first|(go_simp;done)|(go_simp;rfl));intro gb252 hg w3 hbox hb;have n_:=as3 (below_step qz3 hb) (hbox) ((by rw [hg];exact (below_size qz3):w.heap.size≤gb252));clear HB;obtain ⟨HB,BK252,GE252⟩:=n_;clear hb hbox hg;obtain ⟨hcz4_0,hcz4_1,hcz4_2,hfz4_0,hfz4_1,hfz4_2⟩:=blk3 BK252.out))
 (try simp only [Act.put,sA_,sZ_,sS_]);have H:=HC2.out;clear HC2;by_cases c5:a0_0=3
 ·rw [if_pos c5] at H
  have c5b0:(a0_0 == 3)=true:=beq_iff_eq.mpr c5;have c5b1:(a0_0 != 3)=false:=bne_eq_false_iff_eq.mpr c5;clear c5;(first|rw [c5b0]|rw [c5b1]|(simp only [i64_w,i32_w];rw [c5b0])|skip);obtain rfl:=Option.some.inj H;obtain ⟨hcz6_0,hcz6_1,hcz6_2,hfz6_0,hfz6_1,hfz6_2⟩:=blk3 BK252.out;go_wp2;go_ret;exact ⟨qz2,qz69⟩
 ·rw [if_neg c5] at H
  have c5b0:(a0_0 == 3)=false:=beq_eq_false_iff_ne.mpr c5;have c5b1:(a0_0 != 3)=true:=bne_iff_ne.mpr c5;(first|rw [c5b0]|rw [c5b1]|(simp only [i64_w,i32_w];rw [c5b0])|skip);obtain rfl:=Option.some.inj H;go_wp2;go_ret;exact ⟨qz2,qz69⟩

/-! ### impl_size: function 70 -/
def impl_size.l0:Nat→List (S63)→Int→Int→Option (Int)
 | 0,_,_,_=>none
 | k+1,x0,x3,x4=>if x4<x3 then (if x4=(x0.length:Int) then (some (wrap64 ((x0.length:Int)+1))) else (if 0≤x4 then (if x4<(x0.length:Int) then ((impl_TrmCell_arity.f ((rd_T63 x0 x4).f0) ((rd_T63 x0 x4).f1) ((rd_T63 x0 x4).f2)).bind fun t254=>(impl_size.l0 k x0 (wrap64 (x3+t254)) (wrap64 (x4+1)))) else (none)) else (none))) else (some x3)
def impl_size.f (k:Nat) (l0:List (S63)):Option (Int):=impl_size.l0 k l0 1 0
set_option maxHeartbeats 8000000 in
set_option maxRecDepth 100000 in
theorem impl_size.calls (k:Nat) (A0:Option Addr) (c0:Nat) (l0:List (S63)) (r:Int) (w:World) (hr0:Kd.C k63 w A0 l0.length l0) (hc0:l0.length≤c0) (h:impl_size.f k l0=some r) :
  Calls Tryz.prog 70 #[.slice A0 l0.length c0] w fun e w'=>e = .returned (.int .i64 r)∧Below w.heap.size w w':=by
 have hu63:=Tryz.underlying63;have HR0:=Aside0.mk hr0;have HC0:=Aside0.mk hc0;clear hr0 hc0;have HB:=Aside0.mk (Below.refl w.heap.size w);have H:(impl_size.l0 k l0 1 0)=some r:=h;clear h;have H':=Aside0.mk H;clear H;go_enter Tryz.func70,Tryz.ntmps70;go_wp2
 go_loopg [3,4] k (fun kq v3 v4 w'=>∃ (x3_1:Int) (x4_1:Int),v3 = .int .i64 x3_1∧v4 = .int .i64 x4_1∧Aside0 (impl_size.l0 kq l0 x3_1 x4_1=some r)∧Aside0 (kq≤k)∧Aside0 (Below w.heap.size w w'))
 case atStart=>exact ⟨(1),(0),qz5,qz5,H',⟨Nat.le_refl _⟩,⟨qz1⟩⟩
 case round=>
  clear H';obtain ⟨x3_1,x4_1,rfl,rfl,HA,HK1,HB⟩:=hrel;cases gk with
  | zero=>exact absurd HA.out (by simp [impl_size.l0])
  | succ k1=>
   have H:=HA.out;clear HA;simp only [impl_size.l0] at H;by_cases c2:x4_1<x3_1
   ·rw [if_pos c2] at H
    have c2b0:decide (x4_1<x3_1)=true:=decide_eq_true c2;clear c2;by_cases c3:x4_1=(l0.length:Int)
    ·rw [if_pos c3] at H
     have c3b0:(x4_1 == (l0.length:Int))=true:=beq_iff_eq.mpr c3;have c3b1:(x4_1 != (l0.length:Int))=false:=bne_eq_false_iff_eq.mpr c3;clear c3;obtain rfl:=Option.some.inj H;go_wp2;go_ret;exact ⟨qz2,qz1⟩
    ·rw [if_neg c3] at H
     have c3b0:(x4_1 == (l0.length:Int))=false:=beq_eq_false_iff_ne.mpr c3;have c3b1:(x4_1 != (l0.length:Int))=true:=bne_iff_ne.mpr c3;by_cases c4:0≤x4_1
     ·rw [if_pos c4] at H
      have c4b0:decide (0≤x4_1)=true:=decide_eq_true c4;clear c4;by_cases c5:x4_1<(l0.length:Int)
      ·rw [if_pos c5] at H
       have c5b0:decide (x4_1<(l0.length:Int))=true:=decide_eq_true c5;clear c5;replace H:=Option.bind_eq_some_iff.mp H;obtain ⟨t254,A60,H⟩:=H;(try dsimp only at H);have A6:=Aside0.mk A60;clear A60;have H':=Aside0.mk H;clear H;have p253:0≤(x4_1:Int):=of_decide_eq_true qz4;have q253:x4_1<(l0.length:Int):=of_decide_eq_true qz4;obtain ⟨ad253,e253,hx253_0,hx253_1,hx253_2⟩:=at_T63 HR0.out x4_1 p253 q253;cases e253
       replace hx253_0:=(HB.out.cell (World.block_lt_of_cell? w _ hx253_0)).trans hx253_0;replace hx253_1:=(HB.out.cell (World.block_lt_of_cell? w _ hx253_1)).trans hx253_1;replace hx253_2:=(HB.out.cell (World.block_lt_of_cell? w _ hx253_2)).trans hx253_2;replace p253:=eq_true p253;replace q253:=eq_true q253
       go_wp2_with (first|(go_at_call 88;(with_reducible refine (impl_TrmCell_arity.calls ((rd_T63 l0 x4_1).f0) ((rd_T63 l0 x4_1).f1) ((rd_T63 l0 x4_1).f2) t254 _ A6.out).mono ?_);rintro e w7 ⟨rfl,hb⟩;have n0_:=Aside0.mk (below_step qz3 hb);clear HB;have HB:=n0_;clear n0_ hb))
       go_roundg k1
       case measure=>have:=HK1.out;omega
       case rel=>exact ⟨(wrap64 (x3_1+t254)),(wrap64 (x4_1+1)),qz5,qz5,H',⟨by have:=HK1.out;omega⟩,⟨qz1⟩⟩
      ·rw [if_neg c5] at H
       exact absurd H (by simp)
     ·rw [if_neg c4] at H
      exact absurd H (by simp)
   ·rw [if_neg c2] at H
    have c2b0:decide (x4_1<x3_1)=false:=decide_eq_false c2;clear c2;obtain rfl:=Option.some.inj H;go_wp2;go_ret;exact ⟨qz2,qz1⟩

/-! ### impl_TrmOk: function 42 -/
/-- which place is the first of which p holds; -1, if none is -/
def firstAt (p:Cat.Cell→Bool):List Cat.Cell→Nat→Int
 | [],_=>-1
 | c :: l,i=>if p c then (i:Int) else firstAt p l (i+1)
theorem firstAt_any (p:Cat.Cell→Bool):∀ (l:List Cat.Cell) (i:Nat),decide (firstAt p l i≥0)=l.any p
 | [],i=>by simp [firstAt]
 | c :: l,i=>by
  unfold firstAt;by_cases h:p c=true
  ·simp [h]
  ·have h':p c=false:=by simpa using h
   simp only [h',List.any_cons,Bool.false_or];exact firstAt_any p l (i+1)
theorem firstAt_drop (p:Cat.Cell→Bool) (l:List Cat.Cell) (i:Nat) (h:i<l.length):firstAt p (l.drop i) i=if p (rd_T63 l (i:Int)) then (i:Int) else firstAt p (l.drop (i+1)) (i+1):=by
 rw [List.drop_eq_getElem_cons h];have:rd_T63 l (i:Int)=l[i]:=by simp [rd_T63,List.getD,h]
 rw [this];rfl
/-- what is asked of a predicate on places: it answers p, and what lay before it lies as it lay -/
def PredC (g:Nat) (lb:Array Value) (p:Cat.Cell→Bool) (w:World):Prop:=
 ∀ (W:World) (x:Cat.Cell),Below w.heap.size w W→Calls Tryz.prog g (#[.agg #[.int .i64 x.f0,.int .i64 x.f1,.string x.f2]]++lb) W fun e w'=>e = .returned (.bool (p x))∧Below W.heap.size W w'
set_option maxHeartbeats 4000000 in
set_option maxRecDepth 100000 in
theorem indexFunc_cells (g:Nat) (lb:Array Value) (p:Cat.Cell→Bool) (eg:∀ args w,(callFunc g args).run Tryz.prog w = .ok (.enter g args) w) (A0:Option Addr) (c0:Nat) (l0:List (S63)) (w:World)
  (hr0:Kd.C k63 w A0 l0.length l0) (hc0:l0.length≤c0) (hp:PredC g lb p w) :
  Calls Tryz.prog 94 #[.slice A0 l0.length c0,.func (.func g) #[] lb] w fun e w'=>e = .returned (.int .i64 (firstAt p l0 0))∧Below w.heap.size w w':=by
 have HR:=Aside0.mk hr0;have HP:=Aside0.mk hp;have hm:l0.length≤9223372036854775807:=hr0.2.1;clear hr0 hp;go_enter Tryz.func94,Tryz.ntmps94;go_wp2
 go_loopg [5,8] l0.length (fun gg _ s8 wr=>∃ kk:Nat,kk≤l0.length∧l0.length - kk≤gg∧s8 = .int .i64 kk∧Aside0 (Below w.heap.size w wr)∧Aside0 (firstAt p l0 0=firstAt p (l0.drop kk) kk))
 case atStart=>exact ⟨0,Nat.zero_le _,by omega,rfl,⟨Below.refl _ w⟩,⟨rfl⟩⟩
 case round=>
  obtain ⟨kk,hkk,hg,rfl,BW,A⟩:=hrel;by_cases hlt:kk<l0.length
  ·have hltz:(kk:Int)<(l0.length:Int):=by omega
   have hfd:=Aside0.mk (firstAt_drop p l0 kk hlt);obtain ⟨ad,e1,hx0,hx1,hx2⟩:=at_T63 HR.out (kk:Int) (by omega) hltz;cases e1
   rw [Int.toNat_natCast] at hx0 hx1 hx2;replace hx0:=(BW.out.cell (World.block_lt_of_cell? w _ hx0)).trans hx0;replace hx1:=(BW.out.cell (World.block_lt_of_cell? w _ hx1)).trans hx1;replace hx2:=(BW.out.cell (World.block_lt_of_cell? w _ hx2)).trans hx2;have hcall:=HP.out wr (rd_T63 l0 (kk:Int)) BW.out
   generalize hy:rd_T63 l0 (kk:Int)=y at hx0 hx1 hx2 hcall
   have B:=Aside0.mk hy;clear hy;cases hq:p y with
   | true=>
    rw [hq] at hcall;have Q:=Aside0.mk hq;clear hq
    go_wp2_with (go_at_fn g;refine hcall.mono ?_;rintro e w' ⟨rfl,hb'⟩)
    go_ret;refine ⟨?_,below_step BW.out hb'⟩;rw [A.out,hfd.out,B.out,if_pos Q.out];rfl
   | false=>
    rw [hq] at hcall;have Q:=Aside0.mk hq;clear hq
    go_wp2_with (go_at_fn g;refine hcall.mono ?_;rintro e w' ⟨rfl,hb'⟩)
    go_roundg (l0.length - (kk+1))
    case measure=>omega
    case rel=>
     refine ⟨kk+1,by omega,by omega,by go_num,⟨below_step BW.out hb'⟩,⟨?_⟩⟩;rw [A.out,hfd.out,B.out,if_neg (by rw [Q.out];simp)]
  ·have hltz:¬ (kk:Int)<(l0.length:Int):=by omega
   have e:kk=l0.length:=by omega
   have hE:=Aside0.mk e;clear e;go_wp2;go_ret;refine ⟨?_,BW.out⟩;rw [A.out,hE.out,List.drop_length];rfl
theorem in_pure (a b c:Int):impl_in.f a b c=some (decide (b≤a∧a≤c)):=by
 unfold impl_in.f;by_cases h:a≥b
 ·rw [if_pos h]
  have:b≤a:=h
  simp [this]
 ·rw [if_neg h]
  have:¬ b≤a:=h
  simp [this]
theorem dropWhile_nil {α:Type} (p:α→Bool):∀ l:List α,l.dropWhile p=[]↔∀ x ∈ l,p x=true
 | []=>by simp
 | a :: l=>by
  rw [List.dropWhile_cons];by_cases h:p a=true
  ·rw [if_pos h,dropWhile_nil p l];simp [h]
  ·rw [if_neg h];simp [h]
theorem dropWhile_head {α:Type} (p:α→Bool):∀ (l:List α) (h:l.dropWhile p≠[]),p ((l.dropWhile p).head h)=false
 | [],h=>absurd rfl h
 | a :: l,h=>by
  by_cases ha:p a=true
  ·have e:(a :: l).dropWhile p=l.dropWhile p:=by rw [List.dropWhile_cons,if_pos ha]
   have:=dropWhile_head p l (by rw [← e];exact h)
   simpa only [e] using this
  ·have e:(a :: l).dropWhile p=a :: l:=by rw [List.dropWhile_cons,if_neg ha]
   simp only [e,List.head_cons]
   simpa using ha
set_option maxRecDepth 100000 in
theorem trim_az (l:List UInt8):(Lib.trimS l [97,98,99,100,101,102,103,104,105,106,107,108,109,110,111,112,113,114,115,116,117,118,119,120,121,122]=[])↔l.all (fun b=>decide (97≤b.toNat∧b.toNat≤122))=true:=by
 have hc:∀ b:UInt8,([97,98,99,100,101,102,103,104,105,106,107,108,109,110,111,112,113,114,115,116,117,118,119,120,121,122]:List UInt8).contains b=decide (97≤b.toNat∧b.toNat≤122):=by
  intro b;have:∀ n:Fin 256,([97,98,99,100,101,102,103,104,105,106,107,108,109,110,111,112,113,114,115,116,117,118,119,120,121,122]:List UInt8).contains (UInt8.ofNat n.val)=decide (97≤(UInt8.ofNat n.val).toNat∧(UInt8.ofNat n.val).toNat≤122):=by decide
  have h2:=this ⟨b.toNat,b.toNat_lt⟩
  simpa using h2
 unfold Lib.trimS Lib.trimLeftS Lib.trimRightS;simp only [hc];rw [dropWhile_nil];rw [List.all_eq_true]
 constructor
 ·intro h x hx
  by_cases hd:(l.reverse.dropWhile fun b=>decide (97≤b.toNat∧b.toNat≤122))=[]
  ·rw [dropWhile_nil] at hd
   exact hd x (by simpa using hx)
  ·exfalso
   have h1:=dropWhile_head (fun b:UInt8=>decide (97≤b.toNat∧b.toNat≤122)) l.reverse hd;have h2:=h ((l.reverse.dropWhile fun b=>decide (97≤b.toNat∧b.toNat≤122)).head hd) (by simp);rw [h1] at h2;cases h2
 ·intro h x hx
  have:x ∈ l.reverse.dropWhile (fun b:UInt8=>decide (97≤b.toNat∧b.toNat≤122)):=by simpa using hx
  exact h x (by simpa using (List.dropWhile_sublist _).mem this)
theorem nameOk_pure (s:ByteArray):impl_nameOk.f s=some (Cat.nameOk s):=by
 have hs:s.data.toList.length=s.size:=by rw [Array.length_toList];rfl
 unfold impl_nameOk.f;rw [in_pure];simp only [Option.bind_some];unfold Cat.nameOk Cat.nameOkL;rw [hs];by_cases h:(1:Int)≤(s.size:Int)∧(s.size:Int)≤8
 ·have h':1≤s.size∧s.size≤8:=by omega
  rw [if_pos (by simpa using h)];unfold strings_Trim.f;rw [if_pos (by omega),if_pos (by decide),if_pos (by decide)];simp only [Option.bind_some,ByteArray.toList_eq];have ha:=trim_az s.data.toList;by_cases hz:s.data.toList.all (fun b=>decide (97≤b.toNat∧b.toNat≤122))=true
  ·rw [if_pos (ha.2 hz),hz]
   simp [h',bne]
  ·rw [if_neg (fun e=>hz (ha.1 e)),Bool.not_eq_true _ |>.mp hz]
   simp
 ·have h':¬ (1≤s.size∧s.size≤8):=by omega
  rw [if_neg (by simpa using h)]
  simp [h']
theorem cellOk_pure (c:Cat.Cell):impl_TrmCell_ok.f c.f0 c.f1 c.f2=some (Cat.cellOk c):=by
 unfold impl_TrmCell_ok.f Cat.cellOk;simp only [in_pure,nameOk_pure,Option.bind_some,ByteArray.toList_eq];have e:∀ l:List UInt8,(l == [])=l.isEmpty:=by intro l;cases l <;> rfl
 by_cases h1:c.f0=1
 ·rw [if_pos h1,if_pos h1]
  by_cases h:(0:Int)≤c.f1∧c.f1≤99999
  ·rw [if_pos (by simpa using h),e];simp [h]
  ·rw [if_neg (by simpa using h)];simp only [decide_eq_false h,Bool.false_and]
 rw [if_neg h1,if_neg h1];by_cases h2:c.f0=2
 ·rw [if_pos h2,if_pos h2]
  by_cases h:(-9999:Int)≤c.f1∧c.f1≤9999
  ·rw [if_pos (by simpa using h),e];simp [h]
  ·rw [if_neg (by simpa using h)];simp only [decide_eq_false h,Bool.false_and]
 rw [if_neg h2,if_neg h2];by_cases h3:c.f0=3
 ·rw [if_pos h3,if_pos h3]
  by_cases h:(0:Int)≤c.f1∧c.f1≤3
  ·rw [if_pos (by simpa using h)];simp only [decide_eq_true h,Bool.true_and]
  ·rw [if_neg (by simpa using h)];simp only [decide_eq_false h,Bool.false_and]
 rw [if_neg h3,if_neg h3]
theorem cellOk_ar {c:Cat.Cell} (h:Cat.cellOk c=true):(if c.f0=3 then some c.f1 else some 0:Option Int)=some ((Cat.ar c:Nat):Int)∧Cat.ar c≤3:=by
 unfold Cat.ar;by_cases h3:c.f0=3
 ·unfold Cat.cellOk at h
  rw [if_neg (by omega),if_neg (by omega),if_pos h3] at h;have h:=(Bool.and_eq_true_iff.1 h).1;have h:=of_decide_eq_true h;rw [if_pos h3,if_pos h3];refine ⟨congrArg some ?_,?_⟩ <;> omega
 ·rw [if_neg h3,if_neg h3]
  exact ⟨rfl,by omega⟩
theorem size_l0:∀ (r a:List Cat.Cell) (m:Nat),(a++r).length≤1099511627776→Cat.okl (a++r)→m≤1+3 * a.length→
  Ev (fun k=>impl_size.l0 k (a++r) ((a.length+m:Nat):Int) ((a.length:Nat):Int)) (match Cat.skip m r with
   | some s=>(((a++r).length - s.length:Nat):Int)
   | none=>(((a++r).length+1:Nat):Int)):=by
 intro r
 induction r with
 | nil=>
  intro a m hl ho hm;refine Ev.step (fun k=>rfl) ?_;simp only [impl_size.l0];cases m with
  | zero=>
   rw [Cat.skip_zero];refine Ev.ifn (by omega) ?_;exact Ev.pure (by simp)
  | succ n=>
   rw [Cat.skip_nil];refine Ev.ifp (by omega) (Ev.ifp (by simp) ?_);refine Ev.pure ?_;have:(a++[]).length≤1099511627776:=hl;rw [IntWalk.wrap64_in _ ⟨by omega,by omega⟩];rfl
 | cons c r ih=>
  intro a m hl ho hm;refine Ev.step (fun k=>rfl) ?_;simp only [impl_size.l0];cases m with
  | zero=>
   rw [Cat.skip_zero];refine Ev.ifn (by omega) ?_;exact Ev.pure (by simp)
  | succ n=>
   have hc:Cat.cellOk c=true:=ho c (by simp);obtain ⟨h1,h2⟩:=cellOk_ar hc;have hll:a.length+(r.length+1)≤1099511627776:=by simpa using hl
   have e1:((a.length:Nat):Int)<((a++c :: r).length:Int):=by simp;omega
   have er:rd_T63 (a++c :: r) ((a.length:Nat):Int)=c:=by simp [rd_T63,List.getD]
   refine Ev.ifp (by omega) (Ev.ifn (by omega) (Ev.ifp (by omega) (Ev.ifp e1 ?_)));rw [er];refine Ev.bindv (a:=((Cat.ar c:Nat):Int)) h1 ?_;have e:(a++[c])++r=a++c :: r:=by simp
   have I:=ih (a++[c]) (n+Cat.ar c) (by rw [e];exact hl) (by rw [e];exact ho) (by simp;omega);rw [e] at I;rw [Cat.skip_cons]
   have e2:wrap64 (((a.length+(n+1):Nat):Int)+((Cat.ar c:Nat):Int))=(((a++[c]).length+(n+Cat.ar c):Nat):Int):=by
    rw [IntWalk.wrap64_in _ ⟨by omega,by omega⟩];simp;omega
   have e3:wrap64 (((a.length:Nat):Int)+1)=(((a++[c]).length:Nat):Int):=by
    rw [IntWalk.wrap64_in _ ⟨by omega,by omega⟩];simp
   rw [e2,e3];exact I
theorem size_ev (l:List Cat.Cell) (hl:l.length≤1099511627776) (ho:Cat.okl l):Ev (fun k=>impl_size.f k l) ((Cat.sizeOf l:Nat):Int):=by
 have h:=size_l0 l [] 1 (by simpa using hl) (by simpa using ho) (by simp);unfold impl_size.f;unfold Cat.sizeOf;simp only [List.nil_append,List.length_nil,Nat.zero_add] at h;cases hs:Cat.skip 1 l with
 | none=>rw [hs] at h;exact h
 | some s=>rw [hs] at h;exact h
theorem skip_len:∀ (l:List Cat.Cell) (n:Nat) (r:List Cat.Cell),Cat.skip n l=some r→r.length≤l.length:=by
 intro l n r h;obtain ⟨p,e,_⟩:=Cat.skip_split l n r h;rw [e];simp
theorem sizeOf_eq (l:List Cat.Cell):(Cat.sizeOf l=l.length)↔Cat.skip 1 l=some []:=by
 unfold Cat.sizeOf;cases h:Cat.skip 1 l with
 | none=>simp
 | some s=>
  have:=skip_len l 1 s h;simp only [Option.some.injEq]
  constructor
  ·intro e
   cases s with
   | nil=>rfl
   | cons c s=>
    cases l with
    | nil=>simp at this
    | cons d l=>simp at e this;omega
  ·rintro rfl;simp
set_option maxHeartbeats 4000000 in
set_option maxRecDepth 100000 in
theorem containsFunc_cells (g:Nat) (lb:Array Value) (p:Cat.Cell→Bool) (eg:∀ args w,(callFunc g args).run Tryz.prog w = .ok (.enter g args) w) (A0:Option Addr) (c0:Nat) (l0:List (S63)) (w:World)
  (hr0:Kd.C k63 w A0 l0.length l0) (hc0:l0.length≤c0) (hp:PredC g lb p w) :
  Calls Tryz.prog 69 #[.slice A0 l0.length c0,.func (.func g) #[] lb] w fun e w'=>e = .returned (.bool (l0.any p))∧Below w.heap.size w w':=by
 have H:=Aside0.mk (indexFunc_cells g lb p eg A0 c0 l0 w hr0 hc0 hp);have HA:=Aside0.mk (firstAt_any p l0 0);clear hr0 hp;go_enter Tryz.func69,Tryz.ntmps69
 go_wp2_with (go_at_call 94;refine H.out.mono ?_;rintro e w' ⟨rfl,hb⟩)
 go_ret;exact ⟨by rw [← HA.out];rfl,hb⟩
set_option maxHeartbeats 4000000 in
set_option maxRecDepth 100000 in
theorem trmOk_wrong (x:Cat.Cell) (w:World):Calls Tryz.prog 66 #[.agg #[.int .i64 x.f0,.int .i64 x.f1,.string x.f2]] w fun e w'=>e = .returned (.bool (!Cat.cellOk x))∧Below w.heap.size w w':=by
 have A:=Aside0.mk (cellOk_pure x);go_enter Tryz.func66,Tryz.ntmps66
 go_wp2_with (go_at_call 67;(with_reducible refine (impl_TrmCell_ok.calls x.f0 x.f1 x.f2 (Cat.cellOk x) _ A.out).mono ?_);rintro e w' ⟨rfl,hb⟩)
 go_ret;exact ⟨rfl,below_step (below_alloc (Below.refl _ _) _) hb⟩
def impl_TrmOk.f (l0:List (S63)):Option (Bool):=some (Cat.isTerm l0)
set_option maxHeartbeats 4000000 in
set_option maxRecDepth 100000 in
theorem impl_TrmOk.calls (A0:Option Addr) (c0:Nat) (l0:List (S63)) (r:Bool) (w:World) (hr0:Kd.C k63 w A0 l0.length l0) (hc0:l0.length≤c0) (h:impl_TrmOk.f l0=some r) :
  Calls Tryz.prog 42 #[.slice A0 l0.length c0] w fun e w'=>e = .returned (.bool r)∧Below w.heap.size w w':=by
 obtain rfl:=Option.some.inj h;clear h;have eg:∀ args w,(callFunc 66 args).run Tryz.prog w = .ok (.enter 66 args) w:=by intro args w;first|rfl|kernel_rfl
 have HF:=Aside0.mk (containsFunc_cells 66 #[] (fun c=>!Cat.cellOk c) eg A0 c0 l0);have HC:=Aside0.mk hr0;have HL:=Aside0.mk hc0;have P1:=Aside0.mk (fun w=>fun (W:World) (x:Cat.Cell) (_:Below w.heap.size w W)=>trmOk_wrong x W:∀ w:World,PredC 66 #[] (fun c=>!Cat.cellOk c) w);clear hr0 hc0 eg;by_cases h1:1≤l0.length∧l0.length≤40
 case neg=>
  have A:=Aside0.mk (show impl_in.f (l0.length:Int) 1 40=some false by rw [in_pure];exact congrArg some (decide_eq_false (by omega)));have R:=Aside0.mk (show Cat.isTerm l0=false by unfold Cat.isTerm;rw [decide_eq_false h1];rfl);clear h1;go_enter Tryz.func42,Tryz.ntmps42
  go_wp2_with (go_at_call 68;(with_reducible refine (impl_in.calls (l0.length:Int) 1 40 false _ A.out).mono ?_);rintro e w' ⟨rfl,⟨nd,rfl⟩⟩)
  go_ret;exact ⟨by rw [R.out];rfl,pw_below_drewN (Below.refl _ _) _⟩
 have A:=Aside0.mk (show impl_in.f (l0.length:Int) 1 40=some true by rw [in_pure];exact congrArg some (decide_eq_true (by omega)));by_cases h2:l0.all Cat.cellOk=true
 case neg=>
  have Q:=Aside0.mk (show (l0.any (fun c=>!Cat.cellOk c))=true by simpa [List.any_eq_true,List.all_eq_true] using h2);have R:=Aside0.mk (show Cat.isTerm l0=false by unfold Cat.isTerm;rw [Bool.eq_false_iff.2 h2,Bool.false_and,Bool.and_false]);clear h1 h2;go_enter Tryz.func42,Tryz.ntmps42
  go_wp2_with (first|(go_at_call 68;(with_reducible refine (impl_in.calls (l0.length:Int) 1 40 true _ A.out).mono ?_);rintro e w' ⟨rfl,⟨nd,rfl⟩⟩)|(go_at_call 69;(refine (HF.out _ (Kd.C_drewN HC.out _) HL.out (P1.out _)).mono ?_);rintro e w' ⟨rfl,hb⟩;rw [Q.out]))
  go_ret;exact ⟨by rw [R.out];rfl,below_step (pw_below_drewN (Below.refl _ _) _) hb⟩
 have Q:=Aside0.mk (show (l0.any (fun c=>!Cat.cellOk c))=false by simpa [List.any_eq_false,List.all_eq_true] using h2);obtain ⟨k,hk⟩:=(size_ev l0 (by omega) (fun c hc=>List.all_eq_true.1 h2 c hc)).rounds;have S:=Aside0.mk hk;clear hk;by_cases h3:Cat.sizeOf l0=l0.length
 case neg=>
  have R:=Aside0.mk (show Cat.isTerm l0=false by
   unfold Cat.isTerm;rw [decide_eq_false (fun e=>h3 ((sizeOf_eq l0).2 e)),Bool.and_false,Bool.and_false])
  have e0:(((Cat.sizeOf l0:Nat):Int) == (l0.length:Int))=false:=beq_eq_false_iff_ne.2 (by omega);clear h1 h2 h3;go_enter Tryz.func42,Tryz.ntmps42
  go_wp2_with (first|(go_at_call 68;(with_reducible refine (impl_in.calls (l0.length:Int) 1 40 true _ A.out).mono ?_);rintro e w' ⟨rfl,⟨nd,rfl⟩⟩)|(go_at_call 69;(refine (HF.out _ (Kd.C_drewN HC.out _) HL.out (P1.out _)).mono ?_);rintro e w' ⟨rfl,hb⟩;rw [Q.out];have HB:=Aside0.mk (below_step (pw_below_drewN (Below.refl w.heap.size w) _) hb);clear hb)|(go_at_call 70;(refine (impl_size.calls k A0 c0 l0 _ _ (Kd.C_below HC.out HB.out) HL.out S.out).mono ?_);rintro e w'' ⟨rfl,hb⟩))
  go_ret;exact ⟨by rw [R.out];rfl,below_step HB.out hb⟩
 have R:=Aside0.mk (show Cat.isTerm l0=true by
  unfold Cat.isTerm;rw [decide_eq_true ((sizeOf_eq l0).1 h3),decide_eq_true h1,h2];rfl)
 have e0:(((Cat.sizeOf l0:Nat):Int) == (l0.length:Int))=true:=beq_iff_eq.2 (by omega);clear h1 h2 h3;go_enter Tryz.func42,Tryz.ntmps42
 go_wp2_with (first|(go_at_call 68;(with_reducible refine (impl_in.calls (l0.length:Int) 1 40 true _ A.out).mono ?_);rintro e w' ⟨rfl,⟨nd,rfl⟩⟩)|(go_at_call 69;(refine (HF.out _ (Kd.C_drewN HC.out _) HL.out (P1.out _)).mono ?_);rintro e w' ⟨rfl,hb⟩;rw [Q.out];have HB:=Aside0.mk (below_step (pw_below_drewN (Below.refl w.heap.size w) _) hb);clear hb)|(go_at_call 70;(refine (impl_size.calls k A0 c0 l0 _ _ (Kd.C_below HC.out HB.out) HL.out S.out).mono ?_);rintro e w'' ⟨rfl,hb⟩))
 go_ret;exact ⟨by rw [R.out];rfl,below_step HB.out hb⟩

/-! ### impl_below: function 65 -/
set_option maxHeartbeats 4000000 in
set_option maxRecDepth 100000 in
theorem below_pred (x:Cat.Cell) (v:Int) (gb:Nat) (w:World) (hv:w.cell? ⟨gb,0,none⟩=some (.int .i64 v)):Calls Tryz.prog 92 #[.agg #[.int .i64 x.f0,.int .i64 x.f1,.string x.f2],.pointer (some ⟨gb,0,none⟩)] w fun e w'=>e = .returned (.bool (decide (x.f0=1) && decide (v≤x.f1)))∧Below w.heap.size w w':=by
 have HV:=Aside0.mk hv;clear hv;have HB:=Aside0.mk (Below.refl w.heap.size w);by_cases c2:x.f0=1
 ·have c2b0:(x.f0 == 1)=true:=beq_iff_eq.mpr c2
  have R:=Aside0.mk (show decide (x.f0=1)=true from decide_eq_true c2);clear c2;go_enter Tryz.func92,Tryz.ntmps92
  go_wp2_with (first|((with_reducible refine gate_dst (N:=2) rfl ?_);refine box_event ?hg (N:=2) ?hd (cs:=#[.int .i64 x.f0,.int .i64 x.f1,.string x.f2]) (t:=63) ?hr ?_;(case hd=>rfl);(case hg=>rfl);(case hr=>first|(go_simp;done)|(go_simp;rfl));intro gq hg w3 hbox hb;have n_:=as2 (below_step qz3 hb) (hbox);clear HB;obtain ⟨HB,BK⟩:=n_;clear hb hbox hg;obtain ⟨hcz4_0,hcz4_1,hcz4_2,_,_,_⟩:=blk3 BK.out;have hv:=(HB.out.cell (World.block_lt_of_cell? w _ HV.out)).trans HV.out))
  go_ret;exact ⟨by rw [R.out];rfl,HB.out⟩
 ·have c2b0:(x.f0 == 1)=false:=beq_eq_false_iff_ne.mpr c2
  have R:=Aside0.mk (show decide (x.f0=1)=false from decide_eq_false c2);clear c2;go_enter Tryz.func92,Tryz.ntmps92
  go_wp2_with (first|((with_reducible refine gate_dst (N:=2) rfl ?_);refine box_event ?hg (N:=2) ?hd (cs:=#[.int .i64 x.f0,.int .i64 x.f1,.string x.f2]) (t:=63) ?hr ?_;(case hd=>rfl);(case hg=>rfl);(case hr=>first|(go_simp;done)|(go_simp;rfl));intro gq hg w3 hbox hb;have n_:=as2 (below_step qz3 hb) (hbox);clear HB;obtain ⟨HB,BK⟩:=n_;clear hb hbox hg;obtain ⟨hcz4_0,hcz4_1,hcz4_2,_,_,_⟩:=blk3 BK.out))
  go_ret;exact ⟨by rw [R.out];rfl,HB.out⟩
theorem below_pred' (x:Cat.Cell) (v:Int) (gb:Nat) (w:World) (hv:w.cell? ⟨gb,0,none⟩=some (.int .i64 v)):Calls Tryz.prog 92 (#[.agg #[.int .i64 x.f0,.int .i64 x.f1,.string x.f2]] ++ #[.pointer (some ⟨gb,0,none⟩)]) w fun e w'=>e = .returned (.bool (decide (x.f0=1) && decide (v≤x.f1)))∧Below w.heap.size w w':=by
 have ea:(#[.agg #[.int .i64 x.f0,.int .i64 x.f1,.string x.f2]] ++ #[.pointer (some ⟨gb,0,none⟩)]:Array Value) = #[.agg #[.int .i64 x.f0,.int .i64 x.f1,.string x.f2],.pointer (some ⟨gb,0,none⟩)]:=rfl;rw [ea];exact below_pred x v gb w hv
theorem below_predC (v:Int) (gb:Nat) (w:World) (hv:w.cell? ⟨gb,0,none⟩=some (.int .i64 v)):PredC 92 #[.pointer (some ⟨gb,0,none⟩)] (fun c=>decide (c.f0=1) && decide (v≤c.f1)) w:=by
 intro W x hb;exact below_pred' x v gb W ((hb.cell (World.block_lt_of_cell? w _ hv)).trans hv)
def impl_below.f (l0:List (S63)) (a1:Int):Option (Bool):=some (Cat.belowB a1 l0)
set_option maxHeartbeats 4000000 in
set_option maxRecDepth 100000 in
theorem impl_below.calls (A0:Option Addr) (c0:Nat) (l0:List (S63)) (a1:Int) (r:Bool) (w:World) (hr0:Kd.C k63 w A0 l0.length l0) (hc0:l0.length≤c0) (h:impl_below.f l0 a1=some r) :
  Calls Tryz.prog 65 #[.slice A0 l0.length c0,.int .i64 a1] w fun e w'=>e = .returned (.bool r)∧Below w.heap.size w w':=by
 obtain rfl:=Option.some.inj h;clear h;have eg:∀ args w,(callFunc 92 args).run Tryz.prog w = .ok (.enter 92 args) w:=by intro args w;first|rfl|kernel_rfl
 have HF:=Aside0.mk (fun lb=>containsFunc_cells 92 lb (fun c=>decide (c.f0=1) && decide (a1≤c.f1)) eg A0 c0 l0);have HC:=Aside0.mk hr0;have HL:=Aside0.mk hc0;have R:=Aside0.mk (show Cat.belowB a1 l0 = !(l0.any (fun c=>decide (c.f0=1) && decide (a1≤c.f1))) from rfl);have HB:=Aside0.mk (Below.refl w.heap.size w);have P1:=Aside0.mk (fun (gb:Nat) (w:World) (hv:w.cell? ⟨gb,0,none⟩=some (.int .i64 a1))=>below_predC a1 gb w hv);clear hr0 hc0 eg;go_enter Tryz.func65,Tryz.ntmps65
 go_wp2_with (first|((with_reducible refine gate_dst (N:=3) rfl ?_);refine box_event ?hg (N:=3) ?hd (cs:=#[.int .i64 a1]) (t:=3) ?hr ?_;(case hd=>rfl);(case hg=>rfl);(case hr=>first|(go_simp;done)|(go_simp;rfl));intro gq hg w3 hbox hb;have n_:=as2 (below_step qz3 hb) (hbox);clear HB;obtain ⟨HB,BK⟩:=n_;clear hb hbox hg;have hcz4_0:=Aside0.mk (show w3.cell? ⟨gq,0,none⟩=some (.int .i64 a1) from (blk_cell BK.out 0).trans rfl))|(go_at_call 69;(refine (HF.out _ _ (Kd.C_below HC.out HB.out) HL.out (P1.out _ _ hcz4_0.out)).mono ?_);rintro e w' ⟨rfl,hb⟩;have n0_:=Aside0.mk (below_step HB.out hb);clear HB;have HB:=n0_;clear n0_ hb))
 go_ret;exact ⟨by rw [R.out];rfl,HB.out⟩

/-! ### impl_inClause: function 39 -/
def impl_inClause.f (l0:List (S63)):Option (Bool):=if (l0.length:Int)≤12 then ((impl_below.f l0 8).bind fun t255=>(some t255)) else (some false)
set_option maxHeartbeats 8000000 in
set_option maxRecDepth 100000 in
theorem impl_inClause.calls (A0:Option Addr) (c0:Nat) (l0:List (S63)) (r:Bool) (w:World) (hr0:Kd.C k63 w A0 l0.length l0) (hc0:l0.length≤c0) (h:impl_inClause.f l0=some r) :
  Calls Tryz.prog 39 #[.slice A0 l0.length c0] w fun e w'=>e = .returned (.bool r)∧Below w.heap.size w w':=by
 have HR0:=Aside0.mk hr0;have HC0:=Aside0.mk hc0;clear hr0 hc0;have HB:=Aside0.mk (Below.refl w.heap.size w);have H:(if (l0.length:Int)≤12 then ((impl_below.f l0 8).bind fun t255=>(some t255)) else (some false))=some r:=h;clear h;by_cases c2:(l0.length:Int)≤12
 ·rw [if_pos c2] at H
  have c2b0:decide ((l0.length:Int)≤12)=true:=decide_eq_true c2;have c2b1:decide (l0.length≤12)=true:=decide_eq_true (by omega);clear c2;replace H:=Option.bind_eq_some_iff.mp H;obtain ⟨t255,A30,H⟩:=H;(try dsimp only at H);have A3:=Aside0.mk A30;clear A30;obtain rfl:=Option.some.inj H;go_enter Tryz.func39,Tryz.ntmps39
  go_wp2_with (first|(go_at_call 65;(with_reducible refine (impl_below.calls _ _ l0 8 t255 _ ?side1 ?side2 A3.out).mono ?_);(case side1=>exact qz42);(case side2=>exact HC0.out);rintro e w4 ⟨rfl,hb⟩;have n0_:=Aside0.mk (below_step qz3 hb);clear HB;have HB:=n0_;clear n0_ hb))
  go_ret;exact ⟨qz2,qz1⟩
 ·rw [if_neg c2] at H
  have c2b0:decide ((l0.length:Int)≤12)=false:=decide_eq_false c2;have c2b1:decide (l0.length≤12)=false:=decide_eq_false (by omega);clear c2;obtain rfl:=Option.some.inj H;go_enter Tryz.func39,Tryz.ntmps39;go_wp2;go_ret;exact ⟨qz2,qz1⟩

/-! ### impl_called: function 64 -/
def impl_called.f (l0:List (S63)):Option (Bool):=(impl_TrmOk.f l0).bind fun t256=>(if t256=true then (if 0<(l0.length:Int) then (some (((rd_T63 l0 0).f0) == 3)) else (none)) else (some false))
set_option maxHeartbeats 8000000 in
set_option maxRecDepth 100000 in
theorem impl_called.calls (A0:Option Addr) (c0:Nat) (l0:List (S63)) (r:Bool) (w:World) (hr0:Kd.C k63 w A0 l0.length l0) (hc0:l0.length≤c0) (h:impl_called.f l0=some r) :
  Calls Tryz.prog 64 #[.slice A0 l0.length c0] w fun e w'=>e = .returned (.bool r)∧Below w.heap.size w w':=by
 have HR0:=Aside0.mk hr0;have HC0:=Aside0.mk hc0;clear hr0 hc0;have HB:=Aside0.mk (Below.refl w.heap.size w);have H:((impl_TrmOk.f l0).bind fun t256=>(if t256=true then (if 0<(l0.length:Int) then (some (((rd_T63 l0 0).f0) == 3)) else (none)) else (some false)))=some r:=h;clear h;replace H:=Option.bind_eq_some_iff.mp H;obtain ⟨t256,A20,H⟩:=H;(try dsimp only at H);have A2:=Aside0.mk A20;clear A20;by_cases c3:t256=true
 ·subst c3
  have H1:(if 0<(l0.length:Int) then (some (((rd_T63 l0 0).f0) == 3)) else (none))=some r:=qz26;clear H;have H:=H1;clear H1;by_cases c4:0<(l0.length:Int)
  ·rw [if_pos c4] at H
   have c4b0:decide (0<(l0.length:Int))=true:=decide_eq_true c4;have c4b1:decide (0<l0.length)=true:=decide_eq_true (by omega);clear c4;obtain rfl:=Option.some.inj H;go_enter Tryz.func64,Tryz.ntmps64
   go_wp2_with (first|(go_at_call 42;(with_reducible refine (impl_TrmOk.calls _ _ l0 true _ ?side1 ?side2 A2.out).mono ?_);(case side1=>exact qz42);(case side2=>exact HC0.out);rintro e w5 ⟨rfl,hb⟩;have n0_:=Aside0.mk (below_step qz3 hb);clear HB;have HB:=n0_;clear n0_ hb;have p257:0≤(0:Int):=(by omega);have q257:0<(l0.length:Int):=of_decide_eq_true qz4;obtain ⟨ad257,e257,hx257_0,hx257_1,hx257_2⟩:=at_T63 HR0.out 0 p257 q257;cases e257;have qi257:(0<l0.length)=True:=eq_true (by omega);(try rw [show ((0:Int)).toNat=0 from rfl] at hx257_0);(try rw [show 0 * 3=0 from rfl] at hx257_0);(try rw [Addr.add_zero'] at hx257_0);(try rw [show ((0:Int)).toNat=0 from rfl] at hx257_1);(try rw [show 0 * 3=0 from rfl] at hx257_1);(try rw [Addr.add_zero'] at hx257_1);(try rw [show ((0:Int)).toNat=0 from rfl] at hx257_2);(try rw [show 0 * 3=0 from rfl] at hx257_2);(try rw [Addr.add_zero'] at hx257_2);replace hx257_0:=(HB.out.cell (World.block_lt_of_cell? w _ hx257_0)).trans hx257_0;replace hx257_1:=(HB.out.cell (World.block_lt_of_cell? w _ hx257_1)).trans hx257_1;replace hx257_2:=(HB.out.cell (World.block_lt_of_cell? w _ hx257_2)).trans hx257_2;replace p257:=eq_true p257;replace q257:=eq_true q257))
   go_ret;exact ⟨qz2,qz1⟩
  ·rw [if_neg c4] at H
   exact absurd H (by simp)
 ·replace c3:=Bool.eq_false_iff.mpr c3
  subst c3;have H1:(some false)=some r:=qz15;clear H;have H:=H1;clear H1;obtain rfl:=Option.some.inj H;go_enter Tryz.func64,Tryz.ntmps64
  go_wp2_with (first|(go_at_call 42;(with_reducible refine (impl_TrmOk.calls _ _ l0 false _ ?side1 ?side2 A2.out).mono ?_);(case side1=>exact qz42);(case side2=>exact HC0.out);rintro e w6 ⟨rfl,hb⟩;have n0_:=Aside0.mk (below_step qz3 hb);clear HB;have HB:=n0_;clear n0_ hb))
  go_ret;exact ⟨qz2,qz1⟩

end Go.Proofs.YtlhniagacegbeaaGreatDoor.P
