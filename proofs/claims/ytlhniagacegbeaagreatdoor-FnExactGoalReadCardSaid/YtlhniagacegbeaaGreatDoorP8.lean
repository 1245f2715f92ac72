/- Contracts of functions of the program: each as a Lean function, and that its call does what that says; printed by cprint.py (this session) over print.py of the kit. Conditions: the hypotheses of each theorem. -/
import Derived.Test.YtlhniagacegbeaaGreatDoorVZ
import Derived.Test.YtlhniagacegbeaaGreatDoorP0
import Derived.Test.YtlhniagacegbeaaGreatDoorP3
import Derived.Test.YtlhniagacegbeaaGreatDoorP7
namespace Go.Proofs.YtlhniagacegbeaaGreatDoor.P
open Go.RowKit Go.Proofs.YtlhniagacegbeaaGreatDoorW.PrintWords Go.Proofs.YtlhniagacegbeaaGreatDoorW.PrintLast Go.Proofs.YtlhniagacegbeaaGreatDoorW.PrintMore
attribute [local go_sem] max2_int min2_int max_two min_two max_three min_three max_four min_four   -- for this text's walks alone
set_option linter.unusedVariables false
set_option linter.unusedSimpArgs false

/-! ### spec_l3Read: function 25 -/
def spec_l3Read.l0:Nat→List ByteArray→List (List (S63))→Int→Option ((List (List (S63))) × Bool)
 | 0,_,_,_=>none
 | k+1,x0,x4,x5=>if x5<(x0.length:Int) then (if 0≤x5 then ((spec_TrmRead.f k (rdOf ByteArray.empty x0 x5)).bind fun bt205=>(if bt205.2=true then (if x4.length<5864062014805 then (spec_l3Read.l0 k x0 (x4++[bt205.1]) (wrap64 (x5+1))) else (none)) else (some (x4,false)))) else (none)) else (some (x4,true))
def spec_l3Read.f (k:Nat) (l0:List ByteArray):Option ((List (List (S63))) × Bool):=spec_l3Read.l0 k l0 (([]:List (List (S63)))) 0
set_option maxHeartbeats 8000000 in
set_option maxRecDepth 100000 in
theorem spec_l3Read.calls (k:Nat) (A0:Option Addr) (c0:Nat) (l0:List ByteArray) (r1:List (List (S63))) (r2:Bool) (w:World) (hr0:Kd.C Kd.string w A0 l0.length l0) (hc0:l0.length≤c0) (h:spec_l3Read.f k l0=some (r1,r2)) :
  Calls Tryz.prog 25 #[.slice A0 l0.length c0] w fun e w'=>∃ v0_:Value,e = .returned (.tuple #[v0_,.bool r2])∧Kd.S (Kd.slice 63 k63) 22 w' w.heap.size (fun _=>True) v0_ r1∧Below w.heap.size w w':=by
 have HR0:=Aside0.mk hr0
 have HC0:=Aside0.mk hc0
 clear hr0 hc0
 have HB:=Aside0.mk (Below.refl w.heap.size w)
 have H:(spec_l3Read.l0 k l0 (([]:List (List (S63)))) 0)=some (r1,r2):=h
 clear h
 obtain ⟨y201,hy201⟩:∃ y_:List (List (S63)),y_=(([]:List (List (S63)))):=⟨_,rfl⟩
 replace H:(spec_l3Read.l0 k l0 y201 0)=some (r1,r2):=by first|(rw [hy201];exact H)|exact H
 have Ny201:=Aside0.mk hy201
 clear hy201
 have H':=Aside0.mk H
 clear H
 go_enter Tryz.func25,Tryz.ntmps25
 go_wp2_with (first|((with_reducible refine gate_dst (N:=8) rfl ?_);refine Kd.S_lit (Kd.slice 63 k63) _ 22 ?hg (N:=8) ?hd (xs:=([]:List (List (S63)))) (inner:=[]) (ok:=fun _=>True) (okp:=fun _=>True) ?hr ?hp (fun _ hk=>hk) trivial (Below.refl _ _) (Nat.le_refl _) (by simp) ?_;(case hd=>rfl);(case hg=>rfl);(case hr=>first|(go_simp;done)|(go_simp;rfl));(case hp=>exact (Reps.none _ _));intro v202 w2 ho3 hb hg_ hnew_;clear hg_ hnew_;(first|rw [← Ny201.out] at ho3|(simp only [Int.reduceToNat] at ho3;rw [← Ny201.out] at ho3));have n0_:=Aside0.mk (Kd.S_lower ho3 (below_size qz1));have n1_:=Aside0.mk (below_step qz1 hb);clear HB;have HO203:=n0_;have HB:=n1_;clear n0_ n1_ hb ho3))
 go_loopg [4,5] k (fun kq v4 v5 w'=>∃ (x4_1:List (List (S63))) (x5_1:Int),v5 = .int .i64 x5_1∧Aside0 (spec_l3Read.l0 kq l0 x4_1 x5_1=some (r1,r2))∧Aside0 (kq≤k)∧Aside0 (Kd.S (Kd.slice 63 k63) 22 w' w.heap.size (fun _=>True) v4 x4_1)∧Aside0 (Below w.heap.size w w'))
 case atStart=>exact ⟨(y201),(0),qz9,H',⟨Nat.le_refl _⟩,⟨by (with_reducible repeat (first|apply Kd.S_alloc|apply Kd.S_drewN|apply Kd.S_drew));exact HO203.out⟩,⟨qz3⟩⟩
 case round=>
  clear H'
  try clear c2
  try clear p2
  obtain ⟨x4_1,x5_1,rfl,HA,HK1,HO_4,HB⟩:=hrel
  cases gk with
  | zero=>exact absurd HA.out (by simp [spec_l3Read.l0])
  | succ k1=>
   have H:=HA.out
   clear HA
   simp only [spec_l3Read.l0] at H
   by_cases c4:x5_1<(l0.length:Int)
   ·rw [if_pos c4] at H
    have c4b0:decide (x5_1<(l0.length:Int))=true:=decide_eq_true c4
    clear c4
    by_cases c5:0≤x5_1
    ·rw [if_pos c5] at H
     have c5b0:decide (0≤x5_1)=true:=decide_eq_true c5
     clear c5
     replace H:=Option.bind_eq_some_iff.mp H
     obtain ⟨⟨t205,t206⟩,A60,H⟩:=H
     try dsimp only at H
     have A6:=Aside0.mk A60
     clear A60
     by_cases c7:t206=true
     ·subst c7
      have H1:(if x4_1.length<5864062014805 then (spec_l3Read.l0 k1 l0 (x4_1++[t205]) (wrap64 (x5_1+1))) else (none))=some (r1,r2):=qz57
      clear H
      have H:=H1
      clear H1
      by_cases c8:x4_1.length<5864062014805
      ·rw [if_pos c8] at H
       have LMc8:=Aside0.mk c8
       clear c8
       obtain ⟨y209,hy209⟩:∃ y_:List (List (S63)),y_=(x4_1++[t205]):=⟨_,rfl⟩
       replace H:(spec_l3Read.l0 k1 l0 y209 (wrap64 (x5_1+1)))=some (r1,r2):=by first|(rw [hy209];exact H)|exact H
       have Ny209:=Aside0.mk hy209
       clear hy209
       have H':=Aside0.mk H
       clear H
       have p204:0≤(x5_1:Int):=of_decide_eq_true qz5
       have q204:x5_1<(l0.length:Int):=of_decide_eq_true qz5
       obtain ⟨ad204,e204,hx204_0⟩:=Kd.at_string HR0.out x5_1 p204 q204
       cases e204
       replace hx204_0:=(HB.out.cell (World.block_lt_of_cell? w _ hx204_0)).trans hx204_0
       replace p204:=eq_true p204
       replace q204:=eq_true q204
       go_wp2_with (first|((with_reducible refine gate_callee (f:=44) rfl ?_);refine goesL_ (some 20) rfl rfl Tryz.func44 (by kernel_rfl) rfl #[.string (rdOf ByteArray.empty l0 x5_1)] rfl qz2 ?_;(with_reducible refine (spec_TrmRead.calls k1 (rdOf ByteArray.empty l0 x5_1) t205 true _ A6.out).mono ?_);rintro e w9 ⟨v207,rfl,ho0,hb⟩;refine ⟨_,rfl,?_⟩;have n0_:=Aside0.mk (Kd.S_elder' qz165 (Kd.R_base ho0) hb);have n1_:=Aside0.mk (Kd.R_lower ho0 (below_size qz1));have n2_:=Aside0.mk (below_step qz1 hb);clear HO_4 HB;have HO_4:=n0_;have HO208:=n1_;have HB:=n2_;clear n0_ n1_ n2_;(try clear hb);(try clear hb2);(try clear hk);(try clear hi);(try clear ho0);obtain ⟨Ao11,co11,eo11⟩:=Kd.R_slice HO208.out;subst eo11)|((with_reducible refine gate_builtin (b:=.append) (xs:=#[.tmp 26,.tmp 28]) rfl ?_);at_builtin;refine Kd.S_append (Kd.slice 63 k63) (w0:=w) w.heap.size rfl (.tmp 26) (.tmp 28) 46 22 (.slice none 0 0) 24 rfl Tryz.underlying46 info22 rfl (by decide) (by omega) u4 x4_1 t205 [.slice Ao11 t205.length co11] (fun _=>True) (fun k_=>some k_=(.slice Ao11 t205.length co11:Value).ownBlock) rfl rfl ?aP (fun k_ hk_=>((Kd.R_mono (ok':=fun k_=>((fun _=>True)) k_∧some k_≠(u4:Value).ownBlock) (Kd.R_apart' (HO208.out) (Kd.S_typed HO_4.out) (by decide)) (fun k_ hk=>⟨trivial,hk.2⟩))).1 k_ hk_.symm) ?aF ?aO ?aB ?aS ?aL ?_;(case aP=>exact Kd.M_row (Kd.R_mono (Kd.R_tight rfl (Kd.R_mono (ok':=fun k_=>((fun _=>True)) k_∧some k_≠(u4:Value).ownBlock) (Kd.R_apart' (HO208.out) (Kd.S_typed HO_4.out) (by decide)) (fun k_ hk=>⟨trivial,hk.2⟩))) (fun _ h_=>h_)));(case aB=>exact qz1);(case aF=>exact (fun _ _=>trivial));(case aO=>(with_reducible repeat (first|apply Kd.S_alloc|apply Kd.S_drewN|apply Kd.S_drew));exact Kd.S_mono HO_4.out (fun k_ hk=>⟨trivial,fun e_=>hk.2 e_⟩));(case aS=>exact (below_size qz1));(case aL=>have:=LMc8.out;omega);intro v210 w10 ho hb hg hat;rw [← Ny209.out] at ho;have n0_:=Aside0.mk (hb);have n1_:=Aside0.mk (ho);clear HB HO_4 HO208;have HB:=n0_;have HO211:=n1_;clear n0_ n1_ ho hb hg hat))
       go_roundg k1
       case measure=>have:=HK1.out;omega
       case rel=>exact ⟨(y209),(wrap64 (x5_1+1)),qz9,H',⟨by have:=HK1.out;omega⟩,⟨by (with_reducible repeat (first|apply Kd.S_alloc|apply Kd.S_drewN|apply Kd.S_drew));exact HO211.out⟩,⟨qz3⟩⟩
      ·rw [if_neg c8] at H
       exact absurd H (by simp)
     ·replace c7:=Bool.eq_false_iff.mpr c7
      subst c7
      have H1:(some (x4_1,false))=some (r1,r2):=qz23
      clear H
      have H:=H1
      clear H1
      simp only [Option.some.injEq,Prod.mk.injEq] at H
      obtain ⟨rfl,rfl⟩:=H
      have p204:0≤(x5_1:Int):=of_decide_eq_true qz5
      have q204:x5_1<(l0.length:Int):=of_decide_eq_true qz5
      obtain ⟨ad204,e204,hx204_0⟩:=Kd.at_string HR0.out x5_1 p204 q204
      cases e204
      replace hx204_0:=(HB.out.cell (World.block_lt_of_cell? w _ hx204_0)).trans hx204_0
      replace p204:=eq_true p204
      replace q204:=eq_true q204
      go_wp2_with (first|((with_reducible refine gate_callee (f:=44) rfl ?_);refine goesL_ (some 20) rfl rfl Tryz.func44 (by kernel_rfl) rfl #[.string (rdOf ByteArray.empty l0 x5_1)] rfl qz2 ?_;(with_reducible refine (spec_TrmRead.calls k1 (rdOf ByteArray.empty l0 x5_1) t205 false _ A6.out).mono ?_);rintro e w12 ⟨v207,rfl,ho0,hb⟩;refine ⟨_,rfl,?_⟩;have n0_:=Aside0.mk (Kd.S_elder' qz165 (Kd.R_base ho0) hb);have n1_:=Aside0.mk (Kd.R_lower ho0 (below_size qz1));have n2_:=Aside0.mk (below_step qz1 hb);clear HO_4 HB;have HO_4:=n0_;have HO208:=n1_;have HB:=n2_;clear n0_ n1_ n2_;(try clear hb);(try clear hb2);(try clear hk);(try clear hi);(try clear ho0)))
      go_ret2
      exact ⟨_,qz4,by (with_reducible repeat (first|apply Kd.S_alloc|apply Kd.S_drewN|apply Kd.S_drew));exact Kd.S_mono HO_4.out (fun _ hk=>trivial),qz3⟩
    ·rw [if_neg c5] at H
     exact absurd H (by simp)
   ·rw [if_neg c4] at H
    have c4b0:decide (x5_1<(l0.length:Int))=false:=decide_eq_false c4
    clear c4
    simp only [Option.some.injEq,Prod.mk.injEq] at H
    obtain ⟨rfl,rfl⟩:=H
    go_wp2
    go_ret2
    exact ⟨_,qz4,qz165,qz3⟩

/-! ### spec_GoalRead: function 6 -/
/-- which terms the words have -/
def spec_GoalRead.pick (ws:List ByteArray):Option (Int × List ByteArray):=
 if ws.length=3 then
  (if (ws.getD 1 ByteArray.empty).data.toList=[61] then some (2,[ws.getD 0 ByteArray.empty,ws.getD 2 ByteArray.empty])
  else if (ws.getD 1 ByteArray.empty).data.toList=[60] then some (4,[ws.getD 0 ByteArray.empty,ws.getD 2 ByteArray.empty]) else none)
 else if ws.length=5 then
  (if (ws.getD 1 ByteArray.empty).data.toList=[43]∧(ws.getD 3 ByteArray.empty).data.toList=[61] then some (5,[ws.getD 0 ByteArray.empty,ws.getD 2 ByteArray.empty,ws.getD 4 ByteArray.empty]) else none)
 else if ws.length=1 then some (1,[ws.getD 0 ByteArray.empty]) else none
def spec_GoalRead.f (k:Nat) (s:ByteArray):Option (Int × List (S63) × List (S63) × List (S63) × Bool):=(spec_l3Words.f k s).bind fun ws=>
 if ws=[] then none else
 if s.data.toList=[33] then some (3,[],[],[],true) else
 match spec_GoalRead.pick ws with
 | none=>some (0,[],[],[],false)
 | some q=>(spec_l3Read.f k q.2).bind fun t=>
  if t.2=true then
   (if t.1.length=q.2.length then
    (spec_GoalOk.f k q.1 (t.1.getD 0 []) (t.1.getD 1 []) (t.1.getD 2 [])).bind fun g=>
     if g=true then some (q.1,t.1.getD 0 [],t.1.getD 1 [],t.1.getD 2 [],true) else some (0,[],[],[],false)
   else none)
  else some (0,[],[],[],false)
theorem spec_GoalRead.lit (W:World) (xs:List ByteArray) (t:TypeId) (hl:xs.length≤9):Kd.string.C (W.alloc (.cells (xs.map Value.string).toArray t)) (some ⟨W.heap.size,0,none⟩) xs.length xs:=by
 refine ⟨rfl,by omega,fun _=>⟨_,rfl,fun j p hj=>⟨[.string p],rfl,rfl,fun i u hu=>?_⟩⟩⟩
 match i,hu with
 | 0,hu=>
  obtain rfl:=Option.some.inj hu
  have e1:(⟨W.heap.size,0,none⟩:Addr).add (j * Kd.string.sz+0)=⟨W.heap.size,j,none⟩:=by simp [Addr.add,Kd.string,Kd.scalar];omega
  rw [e1,Go.World.cell?_alloc_mark]
  simp [hj]
 | i+1,hu=>simp at hu
theorem spec_GoalRead.lit2 (W:World) (n:Nat) (C:Array Value) (xs:List ByteArray) (t:TypeId) (hn:n=W.heap.size) (hC:C=(xs.map Value.string).toArray) (hl:xs.length≤9):Kd.string.C (W.alloc (.cells C t)) (some ⟨n,0,none⟩) xs.length xs:=by
 subst hn hC
 exact spec_GoalRead.lit W xs t hl
theorem spec_GoalRead.one {W:World} {A:Option Addr} {xs:List ByteArray} (h:Kd.string.C W A xs.length xs) (hl:0<xs.length):Kd.string.C W A 1 [xs.getD 0 ByteArray.empty]:=by
 obtain ⟨_,_,h⟩:=h
 obtain ⟨ad,rfl,hc⟩:=h hl
 refine ⟨rfl,by omega,fun _=>⟨ad,rfl,fun j p hj=>?_⟩⟩
 match j,hj with
 | 0,hj=>
  refine hc 0 p ?_
  rw [← Option.some.inj hj,List.getD_eq_getElem?_getD,List.getElem?_eq_getElem hl];rfl
 | j+1,hj=>simp at hj
theorem spec_GoalRead.pick_len {ws:List ByteArray} {q:Int × List ByteArray} (h:spec_GoalRead.pick ws=some q):q.2.length=1∨q.2.length=2∨q.2.length=3:=by
 unfold spec_GoalRead.pick at h
 repeat' split at h
 all_goals first|(cases h;done)|(obtain rfl:=Option.some.inj h;first|exact .inl rfl|exact .inr (.inl rfl)|exact .inr (.inr rfl))
theorem spec_GoalRead.l1 {α:Type}:∀ {l:List α},l.length=1→∃ a,l=[a]
 | [a],_=>⟨a,rfl⟩
theorem spec_GoalRead.l2 {α:Type}:∀ {l:List α},l.length=2→∃ a b,l=[a,b]
 | [a,b],_=>⟨a,b,rfl⟩
theorem spec_GoalRead.l3 {α:Type}:∀ {l:List α},l.length=3→∃ a b c,l=[a,b,c]
 | [a,b,c],_=>⟨a,b,c,rfl⟩
theorem spec_GoalRead.ok1 (k:Nat) (a:Int) (A0:Option Addr) (c0:Nat) (l0:List (S63)) (r:Bool) (w:World) (h0:Kd.C k63 w A0 l0.length l0) (g0:l0.length≤c0) (h:spec_GoalOk.f k a l0 [] []=some r) :
  Calls Tryz.prog 17 #[.agg #[.int .i64 a,.slice A0 l0.length c0,.slice none 0 0,.slice none 0 0]] w fun e w'=>e = .returned (.bool r)∧Below w.heap.size w w':=
 spec_GoalOk.calls k a A0 c0 l0 none 0 [] none 0 [] r w h0 g0 (Kd.C_nil _ _) (Nat.le_refl _) (Kd.C_nil _ _) (Nat.le_refl _) h
theorem spec_GoalRead.ok2 (k:Nat) (a:Int) (A0:Option Addr) (c0:Nat) (l0:List (S63)) (A1:Option Addr) (c1:Nat) (l1:List (S63)) (r:Bool) (w:World) (h0:Kd.C k63 w A0 l0.length l0) (g0:l0.length≤c0) (h1:Kd.C k63 w A1 l1.length l1) (g1:l1.length≤c1) (h:spec_GoalOk.f k a l0 l1 []=some r) :
  Calls Tryz.prog 17 #[.agg #[.int .i64 a,.slice A0 l0.length c0,.slice A1 l1.length c1,.slice none 0 0]] w fun e w'=>e = .returned (.bool r)∧Below w.heap.size w w':=
 spec_GoalOk.calls k a A0 c0 l0 A1 c1 l1 none 0 [] r w h0 g0 h1 g1 (Kd.C_nil _ _) (Nat.le_refl _) h
set_option maxHeartbeats 8000000 in
set_option maxRecDepth 100000 in
theorem spec_GoalRead.calls (k:Nat) (a0:ByteArray) (r1:Int) (r2:List (S63)) (r3:List (S63)) (r4:List (S63)) (r5:Bool) (w:World) (h:spec_GoalRead.f k a0=some (r1,r2,r3,r4,r5)) :
  Calls Tryz.prog 6 #[.string a0] w fun e w'=>∃ v1_ v2_ v3_:Value,e = .returned (.tuple #[.agg #[.int .i64 r1,v1_,v2_,v3_],.bool r5])∧Kd.R k63 63 w' w.heap.size (fun k_=>some k_≠(v2_:Value).ownBlock∧some k_≠(v3_:Value).ownBlock) v1_ r2∧Kd.R k63 63 w' w.heap.size (fun k_=>some k_≠(v1_:Value).ownBlock∧some k_≠(v3_:Value).ownBlock) v2_ r3∧Kd.R k63 63 w' w.heap.size (fun k_=>some k_≠(v1_:Value).ownBlock∧some k_≠(v2_:Value).ownBlock) v3_ r4∧Below w.heap.size w w':=by
 unfold spec_GoalRead.f at h
 obtain ⟨ws,hws,h2⟩:=Option.bind_eq_some_iff.1 h
 clear h
 have h:=h2
 clear h2
 by_cases hne:ws=[]
 ·rw [if_pos hne] at h;cases h
 rw [if_neg hne] at h
 have hlen:1≤ws.length:=List.length_pos_iff.2 hne
 have A1:=Aside0.mk hws
 have HL:=Aside0.mk hlen
 have HB:=Aside0.mk (Below.refl w.heap.size w)
 have hu:=Tryz.underlying24
 clear hws hne hlen
 have HH:=Aside0.mk h
 clear h
 go_enter Tryz.func6,Tryz.ntmps6
 go_upto_if 12 with (first|((with_reducible refine gate_dst (N:=2) rfl ?_);refine box_event ?hg (N:=2) ?hd (cs:=#[.int .i64 0,.slice none 0 0,.slice none 0 0,.slice none 0 0]) (t:=24) ?hr ?_;(case hd=>rfl);(case hg=>rfl);(case hr=>first|(go_simp;done)|(go_simp;rfl));intro gb1 hg w4 hbox hb;have n0_:=Aside0.mk (below_step qz1 hb);have n1_:=Aside0.mk hbox;have n2_:=Aside0.mk ((by rw [hg];exact (below_size qz1)):w.heap.size≤gb1);clear HB;have HB:=n0_;have BK1:=n1_;have GE1:=n2_;clear n0_ n1_ n2_ hb hbox hg)|(go_at_call 24;(with_reducible refine (spec_l3Words.calls k a0 ws _ A1.out).mono ?_);rintro e w5 ⟨v1,rfl,ho0,hb⟩;obtain ⟨gw,cw,rfl,hgw,hcw,hxw,hkw⟩:=Kd.own_cells (Kd.own_of_R ho0) HL.out;have n0_:=Aside0.mk (Kd.R_lower ho0 (below_size qz96));have n1_:=Aside0.mk (blk_below (g:=gb1) (o:=.cells #[.int .i64 0,.slice none 0 0,.slice none 0 0,.slice none 0 0] 24 (0,0)) qz151 hb);have n2_:=Aside0.mk (below_step qz96 hb);have n3_:=Aside0.mk hcw;clear BK1 HB;have BK1:=n1_;have HB:=n2_;have HO:=n0_;have HCW:=n3_;clear n0_ n1_ n2_ n3_ ho0 hb hgw hcw hxw hkw))
 have h:=HH.out
 clear HH
 by_cases hb1:a0.data.toList=[33]
 ·rw [if_pos hb1] at h
  simp only [Option.some.injEq,Prod.mk.injEq] at h
  obtain ⟨rfl,rfl,rfl,rfl,rfl⟩:=h
  have c1:(a0.toList == ([33]:List UInt8))=true:=by rw [Lib.toList_data,hb1];rfl
  clear hb1
  rw [c1]
  have hza_0:w5.cell? ⟨gb1,0,none⟩=some (.int .i64 0):=(blk_cell BK1.out 0).trans rfl;have hfa_0:=blk_frozen BK1.out 0;have hza_1:w5.cell? ⟨gb1,1,none⟩=some (.slice none 0 0):=(blk_cell BK1.out 1).trans rfl;have hfa_1:=blk_frozen BK1.out 1;have hza_2:w5.cell? ⟨gb1,2,none⟩=some (.slice none 0 0):=(blk_cell BK1.out 2).trans rfl;have hfa_2:=blk_frozen BK1.out 2;have hza_3:w5.cell? ⟨gb1,3,none⟩=some (.slice none 0 0):=(blk_cell BK1.out 3).trans rfl;have hfa_3:=blk_frozen BK1.out 3
  go_wp2
  refine bodyPost_ret (results_ct rfl _ _ gb1 24 #[.int .i64 3,.slice none 0 0,.slice none 0 0,.slice none 0 0] (0,0) _ rfl (by (with_reducible repeat (first|refine blk_drewN ?_ _|refine blk_drew ?_|refine blk_alloc ?_ _));refine blk_put (cs:=#[.int .i64 3,.slice none 0 0,.slice none 0 0,.slice none 0 0]) ?_ 3 _ rfl;(with_reducible repeat (first|refine blk_drewN ?_ _|refine blk_drew ?_|refine blk_alloc ?_ _));refine blk_put (cs:=#[.int .i64 3,.slice none 0 0,.slice none 0 0,.slice none 0 0]) ?_ 2 _ rfl;(with_reducible repeat (first|refine blk_drewN ?_ _|refine blk_drew ?_|refine blk_alloc ?_ _));refine blk_put (cs:=#[.int .i64 3,.slice none 0 0,.slice none 0 0,.slice none 0 0]) ?_ 1 _ rfl;(with_reducible repeat (first|refine blk_drewN ?_ _|refine blk_drew ?_|refine blk_alloc ?_ _));refine blk_put (cs:=#[.int .i64 0,.slice none 0 0,.slice none 0 0,.slice none 0 0]) ?_ 0 _ rfl;(with_reducible repeat (first|refine blk_drewN ?_ _|refine blk_drew ?_|refine blk_alloc ?_ _));exact BK1.out) hu rfl (by kernel_rfl)) rfl ?_
  exact ⟨_,_,_,rfl,Kd.R_nil _ _ _ _ _,Kd.R_nil _ _ _ _ _,Kd.R_nil _ _ _ _ _,qz96⟩
 rw [if_neg hb1] at h
 have c1:(a0.toList == ([33]:List UInt8))=false:=by rw [Lib.toList_data];exact beq_eq_false_iff_ne.2 hb1
 clear hb1
 rw [c1]
 clear c1
 have HH:=Aside0.mk h
 clear h
 go_upto_region 5 with (((with_reducible refine gate_dst (N:=5) rfl ?_);refine box_event ?hg (N:=5) ?hd (cs:=#[.int .i64 0,.slice none 0 0,.slice none 0 0,.slice none 0 0]) (t:=24) ?hr ?_;(case hd=>rfl);(case hg=>rfl);(case hr=>first|(go_simp;done)|(go_simp;rfl));intro gb2 hg w6 hbox hb;have n0_:=Aside0.mk (Kd.R_below (by (with_reducible repeat (first|apply Kd.R_alloc|apply Kd.R_drewN|apply Kd.R_drew));exact HO.out) hb);have n1_:=Aside0.mk (blk_below (g:=gb1) (o:=.cells #[.int .i64 0,.slice none 0 0,.slice none 0 0,.slice none 0 0] 24 (0,0)) qz151 hb);have n2_:=Aside0.mk (below_step qz96 hb);have n3_:=Aside0.mk hbox;have n4_:=Aside0.mk ((by rw [hg];exact (below_size qz96)):w.heap.size≤gb2);have n5_:=Aside0.mk ((by rw [hg];exact Nat.ne_of_lt (blk_lt (g:=gb1) (o:=.cells #[.int .i64 0,.slice none 0 0,.slice none 0 0,.slice none 0 0] 24 (0,0)) qz151)):gb1≠gb2);clear HO BK1 HB;have HO:=n0_;have BK1:=n1_;have HB:=n2_;have BK2:=n3_;have GE2:=n4_;have N12:=n5_;clear n0_ n1_ n2_ n3_ n4_ n5_ hb hbox hg;have hzb_0:w6.cell? ⟨gb2,0,none⟩=some (.int .i64 0):=(blk_cell BK2.out 0).trans rfl;have hzb_1:w6.cell? ⟨gb2,1,none⟩=some (.slice none 0 0):=(blk_cell BK2.out 1).trans rfl;have hzb_2:w6.cell? ⟨gb2,2,none⟩=some (.slice none 0 0):=(blk_cell BK2.out 2).trans rfl;have hzb_3:w6.cell? ⟨gb2,3,none⟩=some (.slice none 0 0):=(blk_cell BK2.out 3).trans rfl;have hfb_0:=blk_frozen BK2.out 0;have hfb_1:=blk_frozen BK2.out 1;have hfb_2:=blk_frozen BK2.out 2;have hfb_3:=blk_frozen BK2.out 3))
 go_cut [6] (fun v6 wc=>v6 = .slice (some ⟨gw,0,none⟩) 1 cw∧Aside0 (Kd.R Kd.string 9 wc w.heap.size (fun _=>True) (.slice (some ⟨gw,0,none⟩) ws.length cw) ws)∧Aside0 (wc.heap[gb1]?=some (.cells #[.int .i64 0,.slice none 0 0,.slice none 0 0,.slice none 0 0] 24 (0,0)))∧Aside0 (wc.heap[gb2]?=some (.cells #[.int .i64 1,.slice none 0 0,.slice none 0 0,.slice none 0 0] 24 (0,0)))∧Aside0 (Below w.heap.size w wc))
 case first=>
  have hcw1:1≤cw:=Nat.le_trans HL.out HCW.out
  go_wp2
  go_meet
  case rel=>exact ⟨rfl,⟨(by (with_reducible repeat (first|apply Kd.R_alloc|apply Kd.R_drewN|apply Kd.R_drew));exact Kd.R_mono (Kd.R_far (p:=⟨gb2,3,none⟩) (Kd.R_far (p:=⟨gb2,2,none⟩) (Kd.R_far (p:=⟨gb2,1,none⟩) (Kd.R_far (p:=⟨gb2,0,none⟩) (Kd.R_types HO.out BK2.out (by decide)) (fun _ hk=>hk.2) (.int .i64 1)) (fun _ hk=>hk.2) (.slice none 0 0)) (fun _ hk=>hk.2) (.slice none 0 0)) (fun _ hk=>hk.2) (.slice none 0 0)) (fun _ hk=>trivial))⟩,⟨(by (with_reducible repeat (first|refine blk_drewN ?_ _|refine blk_drew ?_|refine blk_alloc ?_ _));refine blk_far ?_ N12.out _;(with_reducible repeat (first|refine blk_drewN ?_ _|refine blk_drew ?_|refine blk_alloc ?_ _));refine blk_far ?_ N12.out _;(with_reducible repeat (first|refine blk_drewN ?_ _|refine blk_drew ?_|refine blk_alloc ?_ _));refine blk_far ?_ N12.out _;(with_reducible repeat (first|refine blk_drewN ?_ _|refine blk_drew ?_|refine blk_alloc ?_ _));refine blk_far ?_ N12.out _;(with_reducible repeat (first|refine blk_drewN ?_ _|refine blk_drew ?_|refine blk_alloc ?_ _));exact BK1.out)⟩,⟨(by (with_reducible repeat (first|refine blk_drewN ?_ _|refine blk_drew ?_|refine blk_alloc ?_ _));refine blk_put (cs:=#[.int .i64 1,.slice none 0 0,.slice none 0 0,.slice none 0 0]) ?_ 3 _ rfl;(with_reducible repeat (first|refine blk_drewN ?_ _|refine blk_drew ?_|refine blk_alloc ?_ _));refine blk_put (cs:=#[.int .i64 1,.slice none 0 0,.slice none 0 0,.slice none 0 0]) ?_ 2 _ rfl;(with_reducible repeat (first|refine blk_drewN ?_ _|refine blk_drew ?_|refine blk_alloc ?_ _));refine blk_put (cs:=#[.int .i64 1,.slice none 0 0,.slice none 0 0,.slice none 0 0]) ?_ 1 _ rfl;(with_reducible repeat (first|refine blk_drewN ?_ _|refine blk_drew ?_|refine blk_alloc ?_ _));refine blk_put (cs:=#[.int .i64 0,.slice none 0 0,.slice none 0 0,.slice none 0 0]) ?_ 0 _ rfl;(with_reducible repeat (first|refine blk_drewN ?_ _|refine blk_drew ?_|refine blk_alloc ?_ _));exact BK2.out)⟩,⟨qz17⟩⟩
 case rest=>
  obtain ⟨rfl,HO,BK1,BK2,HB⟩:=hcut
  have HD3:=Aside0.mk (rfl:(3:Int)=3)
  have hx1:1<ws.length→wc.cell? ⟨gw,1,none⟩=some (.string (ws.getD 1 ByteArray.empty)):=fun h_=>(Kd.R_cell (d:=ByteArray.empty) HO.out 1 (by omega) (by omega)).1
  have HX1:=Aside0.mk hx1
  clear hx1 HD3
  go_upto_region 6 with (fail)
  go_cut [25] (fun v25 wx=>v25 = .bool (decide (ws.length=3∧(ws.getD 1 ByteArray.empty).data.toList=[61]))∧wx=wc)
  case first=>
   by_cases h3:ws.length=3
   ·have c3:((ws.length:Int) == 3)=true:=beq_iff_eq.2 (by omega)
    have hx1:=HX1.out (by omega)
    have hl1:(1<ws.length)=True:=eq_true (by omega)
    go_wp2
    go_meet
    case rel=>exact ⟨congrArg Value.bool (by rw [Lib.toList_data];simp [h3,Bool.beq_eq_decide_eq]),rfl⟩
   ·have c3:((ws.length:Int) == 3)=false:=beq_eq_false_iff_ne.2 (by omega)
    go_wp2
    go_meet
    case rel=>exact ⟨congrArg Value.bool (by simp [h3]),rfl⟩
  case rest=>
   obtain ⟨rfl,rfl⟩:=hcut
   go_upto_if 25 with (fail)
   have hzd_0:wc.cell? ⟨gb2,0,none⟩=some (.int .i64 1):=(blk_cell BK2.out 0).trans rfl
   have hzd_1:wc.cell? ⟨gb2,1,none⟩=some (.slice none 0 0):=(blk_cell BK2.out 1).trans rfl
   have hzd_2:wc.cell? ⟨gb2,2,none⟩=some (.slice none 0 0):=(blk_cell BK2.out 2).trans rfl
   have hzd_3:wc.cell? ⟨gb2,3,none⟩=some (.slice none 0 0):=(blk_cell BK2.out 3).trans rfl
   have hfd_0:=blk_frozen BK2.out 0
   have hfd_1:=blk_frozen BK2.out 1
   have hfd_2:=blk_frozen BK2.out 2
   have hfd_3:=blk_frozen BK2.out 3
   have hze_0:wc.cell? ⟨gb1,0,none⟩=some (.int .i64 0):=(blk_cell BK1.out 0).trans rfl
   have hze_1:wc.cell? ⟨gb1,1,none⟩=some (.slice none 0 0):=(blk_cell BK1.out 1).trans rfl
   have hze_2:wc.cell? ⟨gb1,2,none⟩=some (.slice none 0 0):=(blk_cell BK1.out 2).trans rfl
   have hze_3:wc.cell? ⟨gb1,3,none⟩=some (.slice none 0 0):=(blk_cell BK1.out 3).trans rfl
   have hfe_0:=blk_frozen BK1.out 0
   have hfe_1:=blk_frozen BK1.out 1
   have hfe_2:=blk_frozen BK1.out 2
   have hfe_3:=blk_frozen BK1.out 3
   go_cut [6] (fun v6 wx=>∃ (q:Int × List ByteArray) (A:Option Addr) (c:Nat),v6 = .slice A q.2.length c∧Aside0 (spec_GoalRead.pick ws=some q)∧Aside0 (q.2.length≤c)∧Aside0 (Kd.C Kd.string wx A q.2.length q.2)∧Aside0 (wx.heap[gb1]?=some (.cells #[.int .i64 0,.slice none 0 0,.slice none 0 0,.slice none 0 0] 24 (0,0)))∧Aside0 (wx.heap[gb2]?=some (.cells #[.int .i64 q.1,.slice none 0 0,.slice none 0 0,.slice none 0 0] 24 (0,0)))∧Aside0 (Below w.heap.size w wx))
   case first=>
    by_cases hp3:ws.length=3∧(ws.getD 1 ByteArray.empty).data.toList=[61]
    ·rw [show decide (ws.length=3∧(ws.getD 1 ByteArray.empty).data.toList=[61])=true from decide_eq_true hp3]
     obtain ⟨s0,hs0⟩:∃ s,s=ws.getD 0 ByteArray.empty:=⟨_,rfl⟩
     have hx0:wc.cell? ⟨gw,0,none⟩=some (.string s0):=qz180
     have HS0:=Aside0.mk hs0
     clear hs0
     have hl0:(0<ws.length)=True:=eq_true (by omega)
     have hi0:(0<(ws.length:Int))=True:=eq_true (by omega)
     have hj0:(0:Int)<(ws.length:Int):=by omega
     obtain ⟨s2,hs2⟩:∃ s,s=ws.getD 2 ByteArray.empty:=⟨_,rfl⟩
     have hx2:wc.cell? ⟨gw,2,none⟩=some (.string s2):=qz179
     have HS2:=Aside0.mk hs2
     clear hs2
     have hl2:(2<ws.length)=True:=eq_true (by omega)
     have hi2:(2<(ws.length:Int))=True:=eq_true (by omega)
     have hj2:(2:Int)<(ws.length:Int):=by omega
     have hnw:gw≠gb2:=fun e_=>absurd (e_ ▸ rfl:some gb2=some gw) (Kd.R_ne HO.out BK2.out (by decide))
     have hpk:spec_GoalRead.pick ws=some (2,[ws.getD 0 ByteArray.empty,ws.getD 2 ByteArray.empty]):=by unfold spec_GoalRead.pick;rw [if_pos hp3.1,if_pos hp3.2]
     have HQ:=Aside0.mk hpk
     clear hpk hp3
     go_upto_region 8 with (fail)
     go_region
     go_wp2
     go_meet
     case rel=>
      refine ⟨(2,[ws.getD 0 ByteArray.empty,ws.getD 2 ByteArray.empty]),_,2,rfl,HQ,⟨?_⟩,⟨?_⟩,⟨?_⟩,⟨?_⟩,⟨?_⟩⟩
      ·exact Nat.le_refl _
      ·exact Kd.C_drew (spec_GoalRead.lit2 _ _ _ [ws.getD 0 ByteArray.empty,ws.getD 2 ByteArray.empty] _ (by simp) (by rw [HS0.out,HS2.out];rfl) (Nat.le_of_ble_eq_true rfl))
      ·exact qz67
      ·exact qz98
      ·exact qz17
    rw [show decide (ws.length=3∧(ws.getD 1 ByteArray.empty).data.toList=[61])=false from decide_eq_false hp3]
    go_upto_region 9 with (fail)
    go_cut [42] (fun v42 wx=>v42 = .bool (decide (ws.length=3∧(ws.getD 1 ByteArray.empty).data.toList=[60]))∧wx=wc)
    case first=>
     clear hzd_0 hfd_0 hze_0 hfe_0 hzd_1 hfd_1 hze_1 hfe_1 hzd_2 hfd_2 hze_2 hfe_2 hzd_3 hfd_3 hze_3 hfe_3
     by_cases h3:ws.length=3
     ·have c3:((ws.length:Int) == 3)=true:=beq_iff_eq.2 (by omega)
      obtain ⟨s1,hs1⟩:∃ s,s=ws.getD 1 ByteArray.empty:=⟨_,rfl⟩
      have hx1:wc.cell? ⟨gw,1,none⟩=some (.string s1):=by rw [hs1];exact (Kd.R_cell (d:=ByteArray.empty) HO.out 1 (by omega) (by omega)).1
      have HS1:=Aside0.mk hs1
      clear hs1
      have hl1:(1<ws.length)=True:=eq_true (by omega)
      have hi1:(1<(ws.length:Int))=True:=eq_true (by omega)
      have hj1:(1:Int)<(ws.length:Int):=by omega
      have H3:=Aside0.mk h3
      clear h3
      go_wp2
      go_meet
      case rel=>exact ⟨congrArg Value.bool (by rw [← HS1.out,Lib.toList_data];simp [H3.out,Bool.beq_eq_decide_eq]),rfl⟩
     ·have c3:((ws.length:Int) == 3)=false:=beq_eq_false_iff_ne.2 (by omega)
      go_wp2
      go_meet
      case rel=>exact ⟨congrArg Value.bool (by simp [h3]),rfl⟩
    case rest=>
     obtain ⟨rfl,rfl⟩:=hcut
     go_upto_if 42 with (fail)
     by_cases hp4:ws.length=3∧(ws.getD 1 ByteArray.empty).data.toList=[60]
     ·rw [show decide (ws.length=3∧(ws.getD 1 ByteArray.empty).data.toList=[60])=true from decide_eq_true hp4]
      obtain ⟨s0,hs0⟩:∃ s,s=ws.getD 0 ByteArray.empty:=⟨_,rfl⟩
      have hx0:wc.cell? ⟨gw,0,none⟩=some (.string s0):=qz180
      have HS0:=Aside0.mk hs0
      clear hs0
      have hl0:(0<ws.length)=True:=eq_true (by omega)
      have hi0:(0<(ws.length:Int))=True:=eq_true (by omega)
      have hj0:(0:Int)<(ws.length:Int):=by omega
      obtain ⟨s2,hs2⟩:∃ s,s=ws.getD 2 ByteArray.empty:=⟨_,rfl⟩
      have hx2:wc.cell? ⟨gw,2,none⟩=some (.string s2):=qz179
      have HS2:=Aside0.mk hs2
      clear hs2
      have hl2:(2<ws.length)=True:=eq_true (by omega)
      have hi2:(2<(ws.length:Int))=True:=eq_true (by omega)
      have hj2:(2:Int)<(ws.length:Int):=by omega
      have hnw:gw≠gb2:=fun e_=>absurd (e_ ▸ rfl:some gb2=some gw) (Kd.R_ne HO.out BK2.out (by decide))
      have hpk:spec_GoalRead.pick ws=some (4,[ws.getD 0 ByteArray.empty,ws.getD 2 ByteArray.empty]):=by unfold spec_GoalRead.pick;rw [if_pos hp4.1,if_neg (fun e_=>hp3 ⟨hp4.1,e_⟩),if_pos hp4.2]
      have HQ:=Aside0.mk hpk
      clear hpk hp3 hp4
      go_upto_region 11 with (fail)
      go_region
      go_wp2
      go_meet
      case rel=>
       refine ⟨(4,[ws.getD 0 ByteArray.empty,ws.getD 2 ByteArray.empty]),_,2,rfl,HQ,⟨?_⟩,⟨?_⟩,⟨?_⟩,⟨?_⟩,⟨?_⟩⟩
       ·exact Nat.le_refl _
       ·exact Kd.C_drew (spec_GoalRead.lit2 _ _ _ [ws.getD 0 ByteArray.empty,ws.getD 2 ByteArray.empty] _ (by simp) (by rw [HS0.out,HS2.out];rfl) (Nat.le_of_ble_eq_true rfl))
       ·exact qz67
       ·exact qz98
       ·exact qz17
     rw [show decide (ws.length=3∧(ws.getD 1 ByteArray.empty).data.toList=[60])=false from decide_eq_false hp4]
     go_upto_region 12 with (fail)
     go_cut [65] (fun v65 wx=>v65 = .bool (decide (ws.length=5∧((ws.getD 1 ByteArray.empty).data.toList=[43]∧(ws.getD 3 ByteArray.empty).data.toList=[61])))∧wx=wc)
     case first=>
      clear hzd_0 hfd_0 hze_0 hfe_0 hzd_1 hfd_1 hze_1 hfe_1 hzd_2 hfd_2 hze_2 hfe_2 hzd_3 hfd_3 hze_3 hfe_3
      by_cases h5:ws.length=5
      ·have c5:((ws.length:Int) == 5)=true:=beq_iff_eq.2 (by omega)
       obtain ⟨s1,hs1⟩:∃ s,s=ws.getD 1 ByteArray.empty:=⟨_,rfl⟩
       have hx1:wc.cell? ⟨gw,1,none⟩=some (.string s1):=by rw [hs1];exact (Kd.R_cell (d:=ByteArray.empty) HO.out 1 (by omega) (by omega)).1
       have HS1:=Aside0.mk hs1
       clear hs1
       have hl1:(1<ws.length)=True:=eq_true (by omega)
       have hi1:(1<(ws.length:Int))=True:=eq_true (by omega)
       have hj1:(1:Int)<(ws.length:Int):=by omega
       obtain ⟨s3,hs3⟩:∃ s,s=ws.getD 3 ByteArray.empty:=⟨_,rfl⟩
       have hx3:wc.cell? ⟨gw,3,none⟩=some (.string s3):=by rw [hs3];exact (Kd.R_cell (d:=ByteArray.empty) HO.out 3 (by omega) (by omega)).1
       have HS3:=Aside0.mk hs3
       clear hs3
       have hl3:(3<ws.length)=True:=eq_true (by omega)
       have hi3:(3<(ws.length:Int))=True:=eq_true (by omega)
       have hj3:(3:Int)<(ws.length:Int):=by omega
       by_cases ho1:(s1).data.toList=[43]
       ·have o1:(s1.toList == ([43]:List UInt8))=true:=by rw [Lib.toList_data];exact beq_iff_eq.2 ho1
        have H5:=Aside0.mk h5
        have H1:=Aside0.mk ho1
        clear h5 ho1
        go_wp2
        go_meet
        case rel=>exact ⟨congrArg Value.bool (by rw [← HS1.out,← HS3.out,Lib.toList_data];simp [H5.out,H1.out,Bool.beq_eq_decide_eq]),rfl⟩
       ·have o1:(s1.toList == ([43]:List UInt8))=false:=by rw [Lib.toList_data];exact beq_eq_false_iff_ne.2 ho1
        have H5:=Aside0.mk h5
        have H1:=Aside0.mk ho1
        clear h5 ho1
        go_wp2
        go_meet
        case rel=>exact ⟨congrArg Value.bool (by rw [← HS1.out];simp [H1.out]),rfl⟩
      ·have c5:((ws.length:Int) == 5)=false:=beq_eq_false_iff_ne.2 (by omega)
       go_wp2
       go_meet
       case rel=>exact ⟨congrArg Value.bool (by simp [h5]),rfl⟩
     case rest=>
      obtain ⟨rfl,rfl⟩:=hcut
      go_upto_if 65 with (fail)
      by_cases hp5:ws.length=5∧((ws.getD 1 ByteArray.empty).data.toList=[43]∧(ws.getD 3 ByteArray.empty).data.toList=[61])
      ·rw [show decide (ws.length=5∧((ws.getD 1 ByteArray.empty).data.toList=[43]∧(ws.getD 3 ByteArray.empty).data.toList=[61]))=true from decide_eq_true hp5]
       obtain ⟨s0,hs0⟩:∃ s,s=ws.getD 0 ByteArray.empty:=⟨_,rfl⟩
       have hx0:wc.cell? ⟨gw,0,none⟩=some (.string s0):=qz180
       have HS0:=Aside0.mk hs0
       clear hs0
       have hl0:(0<ws.length)=True:=eq_true (by omega)
       have hi0:(0<(ws.length:Int))=True:=eq_true (by omega)
       have hj0:(0:Int)<(ws.length:Int):=by omega
       obtain ⟨s2,hs2⟩:∃ s,s=ws.getD 2 ByteArray.empty:=⟨_,rfl⟩
       have hx2:wc.cell? ⟨gw,2,none⟩=some (.string s2):=qz179
       have HS2:=Aside0.mk hs2
       clear hs2
       have hl2:(2<ws.length)=True:=eq_true (by omega)
       have hi2:(2<(ws.length:Int))=True:=eq_true (by omega)
       have hj2:(2:Int)<(ws.length:Int):=by omega
       obtain ⟨s4,hs4⟩:∃ s,s=ws.getD 4 ByteArray.empty:=⟨_,rfl⟩
       have hx4:wc.cell? ⟨gw,4,none⟩=some (.string s4):=by rw [hs4];exact (Kd.R_cell (d:=ByteArray.empty) HO.out 4 (by omega) (by omega)).1
       have HS4:=Aside0.mk hs4
       clear hs4
       have hl4:(4<ws.length)=True:=eq_true (by omega)
       have hi4:(4<(ws.length:Int))=True:=eq_true (by omega)
       have hj4:(4:Int)<(ws.length:Int):=by omega
       have hnw:gw≠gb2:=fun e_=>absurd (e_ ▸ rfl:some gb2=some gw) (Kd.R_ne HO.out BK2.out (by decide))
       have hpk:spec_GoalRead.pick ws=some (5,[ws.getD 0 ByteArray.empty,ws.getD 2 ByteArray.empty,ws.getD 4 ByteArray.empty]):=by unfold spec_GoalRead.pick;rw [if_neg (by omega),if_pos hp5.1,if_pos hp5.2]
       have HQ:=Aside0.mk hpk
       clear hpk hp3 hp4 hp5
       go_upto_region 14 with (fail)
       go_region
       go_wp2
       go_meet
       case rel=>
        refine ⟨(5,[ws.getD 0 ByteArray.empty,ws.getD 2 ByteArray.empty,ws.getD 4 ByteArray.empty]),_,3,rfl,HQ,⟨?_⟩,⟨?_⟩,⟨?_⟩,⟨?_⟩,⟨?_⟩⟩
        ·exact Nat.le_refl _
        ·exact Kd.C_drew (spec_GoalRead.lit2 _ _ _ [ws.getD 0 ByteArray.empty,ws.getD 2 ByteArray.empty,ws.getD 4 ByteArray.empty] _ (by simp) (by rw [HS0.out,HS2.out,HS4.out];rfl) (Nat.le_of_ble_eq_true rfl))
        ·exact qz67
        ·exact qz98
        ·exact qz17
      rw [show decide (ws.length=5∧((ws.getD 1 ByteArray.empty).data.toList=[43]∧(ws.getD 3 ByteArray.empty).data.toList=[61]))=false from decide_eq_false hp5]
      by_cases h1:ws.length=1
      ·have c7:((ws.length:Int) != 1)=false:=bne_eq_false_iff_eq.2 (by omega)
       have hpk:spec_GoalRead.pick ws=some (1,[ws.getD 0 ByteArray.empty]):=by unfold spec_GoalRead.pick;rw [if_neg (by omega),if_neg (by omega),if_pos h1]
       have HQ:=Aside0.mk hpk
       clear hpk h1 hp3 hp4 hp5
       go_wp2
       go_meet
       case rel=>
        refine ⟨(1,[ws.getD 0 ByteArray.empty]),_,cw,rfl,HQ,⟨Nat.le_trans HL.out HCW.out⟩,⟨spec_GoalRead.one (Kd.R_reads' HO.out).2.2 HL.out⟩,BK1,BK2,HB⟩
      ·have c7:((ws.length:Int) != 1)=true:=bne_iff_ne.2 (by omega)
       have hpk:spec_GoalRead.pick ws=none:=by
        unfold spec_GoalRead.pick
        by_cases h3:ws.length=3
        ·rw [if_pos h3,if_neg (fun e_=>hp3 ⟨h3,e_⟩),if_neg (fun e_=>hp4 ⟨h3,e_⟩)]
        ·by_cases h5:ws.length=5
         ·rw [if_neg h3,if_pos h5,if_neg (fun e_=>hp5 ⟨h5,e_⟩)]
         ·rw [if_neg h3,if_neg h5,if_neg h1]
       have h:=HH.out
       rw [hpk] at h
       simp only [Option.some.injEq,Prod.mk.injEq] at h
       obtain ⟨rfl,rfl,rfl,rfl,rfl⟩:=h
       clear HH hpk hp3 hp4 hp5 h1
       go_wp2
       refine bodyPost_ret (results_ct rfl _ _ gb1 24 #[.int .i64 0,.slice none 0 0,.slice none 0 0,.slice none 0 0] (0,0) _ rfl qz13 hu rfl (by kernel_rfl)) rfl ?_
       exact ⟨_,_,_,rfl,Kd.R_nil _ _ _ _ _,Kd.R_nil _ _ _ _ _,Kd.R_nil _ _ _ _ _,qz17⟩
   case rest=>
    obtain ⟨q,A,c,rfl,HQ,HQC,HC,BK1,BK2,HB⟩:=hcut
    obtain ⟨⟨t1,t2⟩,ht,h2⟩:∃ t,spec_l3Read.f k q.2=some t∧(if t.2=true then (if t.1.length=q.2.length then (spec_GoalOk.f k q.1 (t.1.getD 0 []) (t.1.getD 1 []) (t.1.getD 2 [])).bind fun g=>if g=true then some (q.1,t.1.getD 0 [],t.1.getD 1 [],t.1.getD 2 [],true) else some (0,[],[],[],false) else none) else some (0,[],[],[],false))=some (r1,r2,r3,r4,r5):=by
     have h:=HH.out
     rw [HQ.out] at h
     exact Option.bind_eq_some_iff.1 h
    clear HH
    have HLQ:=Aside0.mk (spec_GoalRead.pick_len HQ.out)
    have hn12:=N12.out
    have hn21:=Ne.symm N12.out
    cases t2 with
    | false=>
     have HT:=Aside0.mk ht
     simp only [Bool.false_eq_true,if_false,Option.some.injEq,Prod.mk.injEq] at h2
     obtain ⟨rfl,rfl,rfl,rfl,rfl⟩:=h2
     clear ht
     go_wp2_with ((go_at_call 25;(with_reducible refine (spec_l3Read.calls k A c q.2 t1 false _ HC.out HQC.out HT.out).mono ?_);rintro e w8 ⟨v8,rfl,ho0,hb⟩;have n0_:=Aside0.mk (blk_below (g:=gb1) (o:=.cells #[.int .i64 0,.slice none 0 0,.slice none 0 0,.slice none 0 0] 24 (0,0)) BK1.out hb);have n1_:=Aside0.mk (below_step HB.out hb);clear BK1 HB;have BK1:=n0_;have HB:=n1_;clear n0_ n1_ ho0 hb;have hzf_0:w8.cell? ⟨gb1,0,none⟩=some (.int .i64 0):=(blk_cell BK1.out 0).trans rfl;have hzf_1:w8.cell? ⟨gb1,1,none⟩=some (.slice none 0 0):=(blk_cell BK1.out 1).trans rfl;have hzf_2:w8.cell? ⟨gb1,2,none⟩=some (.slice none 0 0):=(blk_cell BK1.out 2).trans rfl;have hzf_3:w8.cell? ⟨gb1,3,none⟩=some (.slice none 0 0):=(blk_cell BK1.out 3).trans rfl;have hff_0:=blk_frozen BK1.out 0;have hff_1:=blk_frozen BK1.out 1;have hff_2:=blk_frozen BK1.out 2;have hff_3:=blk_frozen BK1.out 3))
     refine bodyPost_ret (results_ct rfl _ _ gb1 24 #[.int .i64 0,.slice none 0 0,.slice none 0 0,.slice none 0 0] (0,0) _ rfl qz13 hu rfl (by kernel_rfl)) rfl ?_
     exact ⟨_,_,_,rfl,Kd.R_nil _ _ _ _ _,Kd.R_nil _ _ _ _ _,Kd.R_nil _ _ _ _ _,qz17⟩
    | true=>
     simp only [if_true] at h2
     by_cases hl:t1.length=q.2.length
     case neg=>rw [if_neg hl] at h2;cases h2
     rw [if_pos hl] at h2
     obtain ⟨g,hg,h3⟩:=Option.bind_eq_some_iff.1 h2
     clear h2
     have hlq:=HLQ.out
     clear HLQ
     rcases hlq with hq|hq|hq
     ·obtain ⟨x0,rfl⟩:=spec_GoalRead.l1 (hl.trans hq)
      clear hl hq
      have hg2:spec_GoalOk.f k q.1 x0 [] []=some g:=hg
      have h4:(if g=true then some (q.1,x0,[],[],true) else some (0,[],[],[],false))=some (r1,r2,r3,r4,r5):=h3
      have HT:=Aside0.mk ht
      have HG:=Aside0.mk hg2
      clear ht hg h3 hg2
      go_upto_region 25 with ((go_at_call 25;(with_reducible refine (spec_l3Read.calls k A c q.2 [x0] true _ HC.out HQC.out HT.out).mono ?_);rintro e w8 ⟨v8,rfl,ho0,hb⟩;obtain ⟨f_,inner_,hown,hel⟩:=Kd.S_rows ho0;obtain ⟨gt,ct,rfl,hgt,hct,hcell,cells_,hkt⟩:=Kd.own_cells (n:=1) hown (by decide);obtain ⟨u0,hu0,hR0⟩:=hel 0 x0 rfl;obtain ⟨A0,c0,rfl⟩:=Kd.R_slice hR0;have hcl0:=hcell 0 _ hu0;have HR0:=Aside0.mk (Kd.R_lower hR0 (below_size HB.out));have n0_:=Aside0.mk (blk_below (g:=gb1) (o:=.cells #[.int .i64 0,.slice none 0 0,.slice none 0 0,.slice none 0 0] 24 (0,0)) BK1.out hb);have n1_:=Aside0.mk (blk_below (g:=gb2) (o:=.cells #[.int .i64 q.1,.slice none 0 0,.slice none 0 0,.slice none 0 0] 24 (0,0)) BK2.out hb);have n2_:=Aside0.mk (below_step HB.out hb);clear BK1 BK2 HB;have BK1:=n0_;have BK2:=n1_;have HB:=n2_;have hnt:gt≠gb2:=blk_ne hkt BK2.out (by decide);clear n0_ n1_ n2_ ho0 hb hown hel hcell hkt hgt hct hu0 hR0;have hzg_0:w8.cell? ⟨gb2,0,none⟩=some (.int .i64 q.1):=(blk_cell BK2.out 0).trans rfl;have hzg_1:w8.cell? ⟨gb2,1,none⟩=some (.slice none 0 0):=(blk_cell BK2.out 1).trans rfl;have hzg_2:w8.cell? ⟨gb2,2,none⟩=some (.slice none 0 0):=(blk_cell BK2.out 2).trans rfl;have hzg_3:w8.cell? ⟨gb2,3,none⟩=some (.slice none 0 0):=(blk_cell BK2.out 3).trans rfl;have hfg_0:=blk_frozen BK2.out 0;have hfg_1:=blk_frozen BK2.out 1;have hfg_2:=blk_frozen BK2.out 2;have hfg_3:=blk_frozen BK2.out 3))
      cases g with
      | false=>
       simp only [Bool.false_eq_true,if_false,Option.some.injEq,Prod.mk.injEq] at h4
       obtain ⟨rfl,rfl,rfl,rfl,rfl⟩:=h4
       go_wp2_with ((go_at_call 17;(with_reducible refine (spec_GoalRead.ok1 k q.1 _ _ x0 false _ ?s1 ?s2 HG.out).mono ?_);(case s1=>exact (Kd.R_reads' (Kd.R_far (p:=⟨gb2,1,none⟩) (Kd.R_types HR0.out BK2.out (by decide)) (fun _ hk=>hk.2) (.slice A0 x0.length c0))).2.2);(case s2=>exact (Kd.R_reads' HR0.out).2.1);rintro e w10 ⟨rfl,hb⟩;have n0_:=Aside0.mk (blk_below (g:=gb1) (o:=.cells #[.int .i64 0,.slice none 0 0,.slice none 0 0,.slice none 0 0] 24 (0,0)) qz67 hb);have n1_:=Aside0.mk (blk_below (g:=gb2) (o:=.cells #[.int .i64 q.1,.slice A0 x0.length c0,.slice none 0 0,.slice none 0 0] 24 (0,0)) qz134 hb);have n2_:=Aside0.mk (below_step qz17 hb);have m0_:=Aside0.mk (Kd.R_below (Kd.R_far (p:=⟨gb2,1,none⟩) (Kd.R_types HR0.out BK2.out (by decide)) (fun _ hk=>hk.2) (.slice A0 x0.length c0)) hb);clear HR0;have HR0:=m0_;clear BK1 BK2 HB;have BK1:=n0_;have BK2:=n1_;have HB:=n2_;clear n0_ n1_ n2_ m0_ hb;have hzh_0:w10.cell? ⟨gb1,0,none⟩=some (.int .i64 0):=(blk_cell BK1.out 0).trans rfl;have hzh_1:w10.cell? ⟨gb1,1,none⟩=some (.slice none 0 0):=(blk_cell BK1.out 1).trans rfl;have hzh_2:w10.cell? ⟨gb1,2,none⟩=some (.slice none 0 0):=(blk_cell BK1.out 2).trans rfl;have hzh_3:w10.cell? ⟨gb1,3,none⟩=some (.slice none 0 0):=(blk_cell BK1.out 3).trans rfl;have hfh_0:=blk_frozen BK1.out 0;have hfh_1:=blk_frozen BK1.out 1;have hfh_2:=blk_frozen BK1.out 2;have hfh_3:=blk_frozen BK1.out 3;have hzi_0:w10.cell? ⟨gb2,0,none⟩=some (.int .i64 q.1):=(blk_cell BK2.out 0).trans rfl;have hzi_1:w10.cell? ⟨gb2,1,none⟩=some (.slice A0 x0.length c0):=(blk_cell BK2.out 1).trans rfl;have hzi_2:w10.cell? ⟨gb2,2,none⟩=some (.slice none 0 0):=(blk_cell BK2.out 2).trans rfl;have hzi_3:w10.cell? ⟨gb2,3,none⟩=some (.slice none 0 0):=(blk_cell BK2.out 3).trans rfl;have hfi_0:=blk_frozen BK2.out 0;have hfi_1:=blk_frozen BK2.out 1;have hfi_2:=blk_frozen BK2.out 2;have hfi_3:=blk_frozen BK2.out 3))
       refine bodyPost_ret (results_ct rfl _ _ gb1 24 #[.int .i64 0,.slice none 0 0,.slice none 0 0,.slice none 0 0] (0,0) _ rfl qz13 hu rfl (by kernel_rfl)) rfl ?_
       exact ⟨_,_,_,rfl,Kd.R_nil _ _ _ _ _,Kd.R_nil _ _ _ _ _,Kd.R_nil _ _ _ _ _,qz17⟩
      | true=>
       simp only [if_true,Option.some.injEq,Prod.mk.injEq] at h4
       obtain ⟨rfl,rfl,rfl,rfl,rfl⟩:=h4
       go_wp2_with ((go_at_call 17;(with_reducible refine (spec_GoalRead.ok1 k q.1 _ _ x0 true _ ?s1 ?s2 HG.out).mono ?_);(case s1=>exact (Kd.R_reads' (Kd.R_far (p:=⟨gb2,1,none⟩) (Kd.R_types HR0.out BK2.out (by decide)) (fun _ hk=>hk.2) (.slice A0 x0.length c0))).2.2);(case s2=>exact (Kd.R_reads' HR0.out).2.1);rintro e w10 ⟨rfl,hb⟩;have n0_:=Aside0.mk (blk_below (g:=gb1) (o:=.cells #[.int .i64 0,.slice none 0 0,.slice none 0 0,.slice none 0 0] 24 (0,0)) qz67 hb);have n1_:=Aside0.mk (blk_below (g:=gb2) (o:=.cells #[.int .i64 q.1,.slice A0 x0.length c0,.slice none 0 0,.slice none 0 0] 24 (0,0)) qz134 hb);have n2_:=Aside0.mk (below_step qz17 hb);have m0_:=Aside0.mk (Kd.R_below (Kd.R_far (p:=⟨gb2,1,none⟩) (Kd.R_types HR0.out BK2.out (by decide)) (fun _ hk=>hk.2) (.slice A0 x0.length c0)) hb);clear HR0;have HR0:=m0_;clear BK1 BK2 HB;have BK1:=n0_;have BK2:=n1_;have HB:=n2_;clear n0_ n1_ n2_ m0_ hb;have hzh_0:w10.cell? ⟨gb1,0,none⟩=some (.int .i64 0):=(blk_cell BK1.out 0).trans rfl;have hzh_1:w10.cell? ⟨gb1,1,none⟩=some (.slice none 0 0):=(blk_cell BK1.out 1).trans rfl;have hzh_2:w10.cell? ⟨gb1,2,none⟩=some (.slice none 0 0):=(blk_cell BK1.out 2).trans rfl;have hzh_3:w10.cell? ⟨gb1,3,none⟩=some (.slice none 0 0):=(blk_cell BK1.out 3).trans rfl;have hfh_0:=blk_frozen BK1.out 0;have hfh_1:=blk_frozen BK1.out 1;have hfh_2:=blk_frozen BK1.out 2;have hfh_3:=blk_frozen BK1.out 3;have hzi_0:w10.cell? ⟨gb2,0,none⟩=some (.int .i64 q.1):=(blk_cell BK2.out 0).trans rfl;have hzi_1:w10.cell? ⟨gb2,1,none⟩=some (.slice A0 x0.length c0):=(blk_cell BK2.out 1).trans rfl;have hzi_2:w10.cell? ⟨gb2,2,none⟩=some (.slice none 0 0):=(blk_cell BK2.out 2).trans rfl;have hzi_3:w10.cell? ⟨gb2,3,none⟩=some (.slice none 0 0):=(blk_cell BK2.out 3).trans rfl;have hfi_0:=blk_frozen BK2.out 0;have hfi_1:=blk_frozen BK2.out 1;have hfi_2:=blk_frozen BK2.out 2;have hfi_3:=blk_frozen BK2.out 3))
       refine bodyPost_ret (results_ct rfl _ _ gb1 24 #[.int .i64 q.1,.slice A0 x0.length c0,.slice none 0 0,.slice none 0 0] (0,0) _ rfl (by (with_reducible repeat (first|refine blk_drewN ?_ _|refine blk_drew ?_|refine blk_alloc ?_ _));refine blk_put (cs:=#[.int .i64 q.1,.slice A0 x0.length c0,.slice none 0 0,.slice none 0 0]) ?_ 3 _ rfl;(with_reducible repeat (first|refine blk_drewN ?_ _|refine blk_drew ?_|refine blk_alloc ?_ _));refine blk_put (cs:=#[.int .i64 q.1,.slice A0 x0.length c0,.slice none 0 0,.slice none 0 0]) ?_ 2 _ rfl;(with_reducible repeat (first|refine blk_drewN ?_ _|refine blk_drew ?_|refine blk_alloc ?_ _));refine blk_put (cs:=#[.int .i64 q.1,.slice none 0 0,.slice none 0 0,.slice none 0 0]) ?_ 1 _ rfl;(with_reducible repeat (first|refine blk_drewN ?_ _|refine blk_drew ?_|refine blk_alloc ?_ _));refine blk_put (cs:=#[.int .i64 0,.slice none 0 0,.slice none 0 0,.slice none 0 0]) ?_ 0 _ rfl;(with_reducible repeat (first|refine blk_drewN ?_ _|refine blk_drew ?_|refine blk_alloc ?_ _));exact BK1.out) hu rfl (by kernel_rfl)) rfl ?_
       exact ⟨_,_,_,rfl,(Kd.R_mono (Kd.R_far (p:=⟨gb1,3,none⟩) (Kd.R_far (p:=⟨gb1,2,none⟩) (Kd.R_far (p:=⟨gb1,1,none⟩) (Kd.R_far (p:=⟨gb1,0,none⟩) (Kd.R_types HR0.out BK1.out (by decide)) (fun _ hk=>hk.2) (.int .i64 q.1)) (fun _ hk=>hk.2) (.slice A0 x0.length c0)) (fun _ hk=>hk.2) (.slice none 0 0)) (fun _ hk=>hk.2) (.slice none 0 0)) (fun k_ hk=>⟨(by simp [Value.ownBlock]),(by simp [Value.ownBlock])⟩)),Kd.R_nil _ _ _ _ _,Kd.R_nil _ _ _ _ _,qz17⟩
     ·obtain ⟨x0,x1,rfl⟩:=spec_GoalRead.l2 (hl.trans hq)
      clear hl hq
      have hg2:spec_GoalOk.f k q.1 x0 x1 []=some g:=hg
      have h4:(if g=true then some (q.1,x0,x1,[],true) else some (0,[],[],[],false))=some (r1,r2,r3,r4,r5):=h3
      have HT:=Aside0.mk ht
      have HG:=Aside0.mk hg2
      clear ht hg h3 hg2
      go_upto_region 25 with ((go_at_call 25;(with_reducible refine (spec_l3Read.calls k A c q.2 [x0,x1] true _ HC.out HQC.out HT.out).mono ?_);rintro e w8 ⟨v8,rfl,ho0,hb⟩;obtain ⟨f_,inner_,hown,hel⟩:=Kd.S_rows ho0;obtain ⟨gt,ct,rfl,hgt,hct,hcell,cells_,hkt⟩:=Kd.own_cells (n:=2) hown (by decide);obtain ⟨u0,hu0,hR0⟩:=hel 0 x0 rfl;obtain ⟨A0,c0,rfl⟩:=Kd.R_slice hR0;have hcl0:=hcell 0 _ hu0;have HR0:=Aside0.mk (Kd.R_lower hR0 (below_size HB.out));obtain ⟨u1,hu1,hR1⟩:=hel 1 x1 rfl;obtain ⟨A1,c1,rfl⟩:=Kd.R_slice hR1;have hcl1:=hcell 1 _ hu1;have HR1:=Aside0.mk (Kd.R_lower hR1 (below_size HB.out));have n0_:=Aside0.mk (blk_below (g:=gb1) (o:=.cells #[.int .i64 0,.slice none 0 0,.slice none 0 0,.slice none 0 0] 24 (0,0)) BK1.out hb);have n1_:=Aside0.mk (blk_below (g:=gb2) (o:=.cells #[.int .i64 q.1,.slice none 0 0,.slice none 0 0,.slice none 0 0] 24 (0,0)) BK2.out hb);have n2_:=Aside0.mk (below_step HB.out hb);clear BK1 BK2 HB;have BK1:=n0_;have BK2:=n1_;have HB:=n2_;have hnt:gt≠gb2:=blk_ne hkt BK2.out (by decide);have AP01:=Aside0.mk (Kd.apart_rows hR0 hR1 (by decide));have AP10:=Aside0.mk (Kd.apart_rows hR1 hR0 (by decide));clear n0_ n1_ n2_ ho0 hb hown hel hcell hkt hgt hct hu0 hR0 hu1 hR1;have hzg_0:w8.cell? ⟨gb2,0,none⟩=some (.int .i64 q.1):=(blk_cell BK2.out 0).trans rfl;have hzg_1:w8.cell? ⟨gb2,1,none⟩=some (.slice none 0 0):=(blk_cell BK2.out 1).trans rfl;have hzg_2:w8.cell? ⟨gb2,2,none⟩=some (.slice none 0 0):=(blk_cell BK2.out 2).trans rfl;have hzg_3:w8.cell? ⟨gb2,3,none⟩=some (.slice none 0 0):=(blk_cell BK2.out 3).trans rfl;have hfg_0:=blk_frozen BK2.out 0;have hfg_1:=blk_frozen BK2.out 1;have hfg_2:=blk_frozen BK2.out 2;have hfg_3:=blk_frozen BK2.out 3))
      cases g with
      | false=>
       simp only [Bool.false_eq_true,if_false,Option.some.injEq,Prod.mk.injEq] at h4
       obtain ⟨rfl,rfl,rfl,rfl,rfl⟩:=h4
       go_wp2_with ((go_at_call 17;(with_reducible refine (spec_GoalRead.ok2 k q.1 _ _ x0 _ _ x1 false _ ?s1 ?s2 ?s3 ?s4 HG.out).mono ?_);(case s1=>exact (Kd.R_reads' (Kd.R_far (p:=⟨gb2,2,none⟩) (Kd.R_far (p:=⟨gb2,1,none⟩) (Kd.R_types HR0.out BK2.out (by decide)) (fun _ hk=>hk.2) (.slice A0 x0.length c0)) (fun _ hk=>hk.2) (.slice A1 x1.length c1))).2.2);(case s2=>exact (Kd.R_reads' HR0.out).2.1);(case s3=>exact (Kd.R_reads' (Kd.R_far (p:=⟨gb2,2,none⟩) (Kd.R_far (p:=⟨gb2,1,none⟩) (Kd.R_types HR1.out BK2.out (by decide)) (fun _ hk=>hk.2) (.slice A0 x0.length c0)) (fun _ hk=>hk.2) (.slice A1 x1.length c1))).2.2);(case s4=>exact (Kd.R_reads' HR1.out).2.1);rintro e w10 ⟨rfl,hb⟩;have n0_:=Aside0.mk (blk_below (g:=gb1) (o:=.cells #[.int .i64 0,.slice none 0 0,.slice none 0 0,.slice none 0 0] 24 (0,0)) qz127 hb);have n1_:=Aside0.mk (blk_below (g:=gb2) (o:=.cells #[.int .i64 q.1,.slice A0 x0.length c0,.slice A1 x1.length c1,.slice none 0 0] 24 (0,0)) qz102 hb);have n2_:=Aside0.mk (below_step qz17 hb);have m0_:=Aside0.mk (Kd.R_below (Kd.R_far (p:=⟨gb2,2,none⟩) (Kd.R_far (p:=⟨gb2,1,none⟩) (Kd.R_types HR0.out BK2.out (by decide)) (fun _ hk=>hk.2) (.slice A0 x0.length c0)) (fun _ hk=>hk.2) (.slice A1 x1.length c1)) hb);have m1_:=Aside0.mk (Kd.R_below (Kd.R_far (p:=⟨gb2,2,none⟩) (Kd.R_far (p:=⟨gb2,1,none⟩) (Kd.R_types HR1.out BK2.out (by decide)) (fun _ hk=>hk.2) (.slice A0 x0.length c0)) (fun _ hk=>hk.2) (.slice A1 x1.length c1)) hb);clear HR0;have HR0:=m0_;clear HR1;have HR1:=m1_;clear BK1 BK2 HB;have BK1:=n0_;have BK2:=n1_;have HB:=n2_;clear n0_ n1_ n2_ m0_ m1_ hb;have hzh_0:w10.cell? ⟨gb1,0,none⟩=some (.int .i64 0):=(blk_cell BK1.out 0).trans rfl;have hzh_1:w10.cell? ⟨gb1,1,none⟩=some (.slice none 0 0):=(blk_cell BK1.out 1).trans rfl;have hzh_2:w10.cell? ⟨gb1,2,none⟩=some (.slice none 0 0):=(blk_cell BK1.out 2).trans rfl;have hzh_3:w10.cell? ⟨gb1,3,none⟩=some (.slice none 0 0):=(blk_cell BK1.out 3).trans rfl;have hfh_0:=blk_frozen BK1.out 0;have hfh_1:=blk_frozen BK1.out 1;have hfh_2:=blk_frozen BK1.out 2;have hfh_3:=blk_frozen BK1.out 3;have hzi_0:w10.cell? ⟨gb2,0,none⟩=some (.int .i64 q.1):=(blk_cell BK2.out 0).trans rfl;have hzi_1:w10.cell? ⟨gb2,1,none⟩=some (.slice A0 x0.length c0):=(blk_cell BK2.out 1).trans rfl;have hzi_2:w10.cell? ⟨gb2,2,none⟩=some (.slice A1 x1.length c1):=(blk_cell BK2.out 2).trans rfl;have hzi_3:w10.cell? ⟨gb2,3,none⟩=some (.slice none 0 0):=(blk_cell BK2.out 3).trans rfl;have hfi_0:=blk_frozen BK2.out 0;have hfi_1:=blk_frozen BK2.out 1;have hfi_2:=blk_frozen BK2.out 2;have hfi_3:=blk_frozen BK2.out 3))
       refine bodyPost_ret (results_ct rfl _ _ gb1 24 #[.int .i64 0,.slice none 0 0,.slice none 0 0,.slice none 0 0] (0,0) _ rfl qz13 hu rfl (by kernel_rfl)) rfl ?_
       exact ⟨_,_,_,rfl,Kd.R_nil _ _ _ _ _,Kd.R_nil _ _ _ _ _,Kd.R_nil _ _ _ _ _,qz17⟩
      | true=>
       simp only [if_true,Option.some.injEq,Prod.mk.injEq] at h4
       obtain ⟨rfl,rfl,rfl,rfl,rfl⟩:=h4
       go_wp2_with ((go_at_call 17;(with_reducible refine (spec_GoalRead.ok2 k q.1 _ _ x0 _ _ x1 true _ ?s1 ?s2 ?s3 ?s4 HG.out).mono ?_);(case s1=>exact (Kd.R_reads' (Kd.R_far (p:=⟨gb2,2,none⟩) (Kd.R_far (p:=⟨gb2,1,none⟩) (Kd.R_types HR0.out BK2.out (by decide)) (fun _ hk=>hk.2) (.slice A0 x0.length c0)) (fun _ hk=>hk.2) (.slice A1 x1.length c1))).2.2);(case s2=>exact (Kd.R_reads' HR0.out).2.1);(case s3=>exact (Kd.R_reads' (Kd.R_far (p:=⟨gb2,2,none⟩) (Kd.R_far (p:=⟨gb2,1,none⟩) (Kd.R_types HR1.out BK2.out (by decide)) (fun _ hk=>hk.2) (.slice A0 x0.length c0)) (fun _ hk=>hk.2) (.slice A1 x1.length c1))).2.2);(case s4=>exact (Kd.R_reads' HR1.out).2.1);rintro e w10 ⟨rfl,hb⟩;have n0_:=Aside0.mk (blk_below (g:=gb1) (o:=.cells #[.int .i64 0,.slice none 0 0,.slice none 0 0,.slice none 0 0] 24 (0,0)) qz127 hb);have n1_:=Aside0.mk (blk_below (g:=gb2) (o:=.cells #[.int .i64 q.1,.slice A0 x0.length c0,.slice A1 x1.length c1,.slice none 0 0] 24 (0,0)) qz102 hb);have n2_:=Aside0.mk (below_step qz17 hb);have m0_:=Aside0.mk (Kd.R_below (Kd.R_far (p:=⟨gb2,2,none⟩) (Kd.R_far (p:=⟨gb2,1,none⟩) (Kd.R_types HR0.out BK2.out (by decide)) (fun _ hk=>hk.2) (.slice A0 x0.length c0)) (fun _ hk=>hk.2) (.slice A1 x1.length c1)) hb);have m1_:=Aside0.mk (Kd.R_below (Kd.R_far (p:=⟨gb2,2,none⟩) (Kd.R_far (p:=⟨gb2,1,none⟩) (Kd.R_types HR1.out BK2.out (by decide)) (fun _ hk=>hk.2) (.slice A0 x0.length c0)) (fun _ hk=>hk.2) (.slice A1 x1.length c1)) hb);clear HR0;have HR0:=m0_;clear HR1;have HR1:=m1_;clear BK1 BK2 HB;have BK1:=n0_;have BK2:=n1_;have HB:=n2_;clear n0_ n1_ n2_ m0_ m1_ hb;have hzh_0:w10.cell? ⟨gb1,0,none⟩=some (.int .i64 0):=(blk_cell BK1.out 0).trans rfl;have hzh_1:w10.cell? ⟨gb1,1,none⟩=some (.slice none 0 0):=(blk_cell BK1.out 1).trans rfl;have hzh_2:w10.cell? ⟨gb1,2,none⟩=some (.slice none 0 0):=(blk_cell BK1.out 2).trans rfl;have hzh_3:w10.cell? ⟨gb1,3,none⟩=some (.slice none 0 0):=(blk_cell BK1.out 3).trans rfl;have hfh_0:=blk_frozen BK1.out 0;have hfh_1:=blk_frozen BK1.out 1;have hfh_2:=blk_frozen BK1.out 2;have hfh_3:=blk_frozen BK1.out 3;have hzi_0:w10.cell? ⟨gb2,0,none⟩=some (.int .i64 q.1):=(blk_cell BK2.out 0).trans rfl;have hzi_1:w10.cell? ⟨gb2,1,none⟩=some (.slice A0 x0.length c0):=(blk_cell BK2.out 1).trans rfl;have hzi_2:w10.cell? ⟨gb2,2,none⟩=some (.slice A1 x1.length c1):=(blk_cell BK2.out 2).trans rfl;have hzi_3:w10.cell? ⟨gb2,3,none⟩=some (.slice none 0 0):=(blk_cell BK2.out 3).trans rfl;have hfi_0:=blk_frozen BK2.out 0;have hfi_1:=blk_frozen BK2.out 1;have hfi_2:=blk_frozen BK2.out 2;have hfi_3:=blk_frozen BK2.out 3))
       refine bodyPost_ret (results_ct rfl _ _ gb1 24 #[.int .i64 q.1,.slice A0 x0.length c0,.slice A1 x1.length c1,.slice none 0 0] (0,0) _ rfl qz71 hu rfl (by kernel_rfl)) rfl ?_
       exact ⟨_,_,_,rfl,(Kd.R_mono (Kd.R_far (p:=⟨gb1,3,none⟩) (Kd.R_far (p:=⟨gb1,2,none⟩) (Kd.R_far (p:=⟨gb1,1,none⟩) (Kd.R_far (p:=⟨gb1,0,none⟩) (Kd.R_types HR0.out BK1.out (by decide)) (fun _ hk=>hk.2) (.int .i64 q.1)) (fun _ hk=>hk.2) (.slice A0 x0.length c0)) (fun _ hk=>hk.2) (.slice A1 x1.length c1)) (fun _ hk=>hk.2) (.slice none 0 0)) (fun k_ hk=>⟨AP01.out k_ hk.1.1,(by simp [Value.ownBlock])⟩)),(Kd.R_mono (Kd.R_far (p:=⟨gb1,3,none⟩) (Kd.R_far (p:=⟨gb1,2,none⟩) (Kd.R_far (p:=⟨gb1,1,none⟩) (Kd.R_far (p:=⟨gb1,0,none⟩) (Kd.R_types HR1.out BK1.out (by decide)) (fun _ hk=>hk.2) (.int .i64 q.1)) (fun _ hk=>hk.2) (.slice A0 x0.length c0)) (fun _ hk=>hk.2) (.slice A1 x1.length c1)) (fun _ hk=>hk.2) (.slice none 0 0)) (fun k_ hk=>⟨AP10.out k_ hk.1.1,(by simp [Value.ownBlock])⟩)),Kd.R_nil _ _ _ _ _,qz17⟩
     ·obtain ⟨x0,x1,x2,rfl⟩:=spec_GoalRead.l3 (hl.trans hq)
      clear hl hq
      have hg2:spec_GoalOk.f k q.1 x0 x1 x2=some g:=hg
      have h4:(if g=true then some (q.1,x0,x1,x2,true) else some (0,[],[],[],false))=some (r1,r2,r3,r4,r5):=h3
      have HT:=Aside0.mk ht
      have HG:=Aside0.mk hg2
      clear ht hg h3 hg2
      go_upto_region 25 with ((go_at_call 25;(with_reducible refine (spec_l3Read.calls k A c q.2 [x0,x1,x2] true _ HC.out HQC.out HT.out).mono ?_);rintro e w8 ⟨v8,rfl,ho0,hb⟩;obtain ⟨f_,inner_,hown,hel⟩:=Kd.S_rows ho0;obtain ⟨gt,ct,rfl,hgt,hct,hcell,cells_,hkt⟩:=Kd.own_cells (n:=3) hown (by decide);obtain ⟨u0,hu0,hR0⟩:=hel 0 x0 rfl;obtain ⟨A0,c0,rfl⟩:=Kd.R_slice hR0;have hcl0:=hcell 0 _ hu0;have HR0:=Aside0.mk (Kd.R_lower hR0 (below_size HB.out));obtain ⟨u1,hu1,hR1⟩:=hel 1 x1 rfl;obtain ⟨A1,c1,rfl⟩:=Kd.R_slice hR1;have hcl1:=hcell 1 _ hu1;have HR1:=Aside0.mk (Kd.R_lower hR1 (below_size HB.out));obtain ⟨u2,hu2,hR2⟩:=hel 2 x2 rfl;obtain ⟨A2,c2,rfl⟩:=Kd.R_slice hR2;have hcl2:=hcell 2 _ hu2;have HR2:=Aside0.mk (Kd.R_lower hR2 (below_size HB.out));have n0_:=Aside0.mk (blk_below (g:=gb1) (o:=.cells #[.int .i64 0,.slice none 0 0,.slice none 0 0,.slice none 0 0] 24 (0,0)) BK1.out hb);have n1_:=Aside0.mk (blk_below (g:=gb2) (o:=.cells #[.int .i64 q.1,.slice none 0 0,.slice none 0 0,.slice none 0 0] 24 (0,0)) BK2.out hb);have n2_:=Aside0.mk (below_step HB.out hb);clear BK1 BK2 HB;have BK1:=n0_;have BK2:=n1_;have HB:=n2_;have hnt:gt≠gb2:=blk_ne hkt BK2.out (by decide);have AP01:=Aside0.mk (Kd.apart_rows hR0 hR1 (by decide));have AP02:=Aside0.mk (Kd.apart_rows hR0 hR2 (by decide));have AP10:=Aside0.mk (Kd.apart_rows hR1 hR0 (by decide));have AP12:=Aside0.mk (Kd.apart_rows hR1 hR2 (by decide));have AP20:=Aside0.mk (Kd.apart_rows hR2 hR0 (by decide));have AP21:=Aside0.mk (Kd.apart_rows hR2 hR1 (by decide));clear n0_ n1_ n2_ ho0 hb hown hel hcell hkt hgt hct hu0 hR0 hu1 hR1 hu2 hR2;have hzg_0:w8.cell? ⟨gb2,0,none⟩=some (.int .i64 q.1):=(blk_cell BK2.out 0).trans rfl;have hzg_1:w8.cell? ⟨gb2,1,none⟩=some (.slice none 0 0):=(blk_cell BK2.out 1).trans rfl;have hzg_2:w8.cell? ⟨gb2,2,none⟩=some (.slice none 0 0):=(blk_cell BK2.out 2).trans rfl;have hzg_3:w8.cell? ⟨gb2,3,none⟩=some (.slice none 0 0):=(blk_cell BK2.out 3).trans rfl;have hfg_0:=blk_frozen BK2.out 0;have hfg_1:=blk_frozen BK2.out 1;have hfg_2:=blk_frozen BK2.out 2;have hfg_3:=blk_frozen BK2.out 3))
      cases g with
      | false=>
       simp only [Bool.false_eq_true,if_false,Option.some.injEq,Prod.mk.injEq] at h4
       obtain ⟨rfl,rfl,rfl,rfl,rfl⟩:=h4
       go_wp2_with ((go_at_call 17;(with_reducible refine (spec_GoalOk.calls k q.1 _ _ x0 _ _ x1 _ _ x2 false _ ?s1 ?s2 ?s3 ?s4 ?s5 ?s6 HG.out).mono ?_);(case s1=>exact (Kd.R_reads' (Kd.R_far (p:=⟨gb2,3,none⟩) (Kd.R_far (p:=⟨gb2,2,none⟩) (Kd.R_far (p:=⟨gb2,1,none⟩) (Kd.R_types HR0.out BK2.out (by decide)) (fun _ hk=>hk.2) (.slice A0 x0.length c0)) (fun _ hk=>hk.2) (.slice A1 x1.length c1)) (fun _ hk=>hk.2) (.slice A2 x2.length c2))).2.2);(case s2=>exact (Kd.R_reads' HR0.out).2.1);(case s3=>exact (Kd.R_reads' (Kd.R_far (p:=⟨gb2,3,none⟩) (Kd.R_far (p:=⟨gb2,2,none⟩) (Kd.R_far (p:=⟨gb2,1,none⟩) (Kd.R_types HR1.out BK2.out (by decide)) (fun _ hk=>hk.2) (.slice A0 x0.length c0)) (fun _ hk=>hk.2) (.slice A1 x1.length c1)) (fun _ hk=>hk.2) (.slice A2 x2.length c2))).2.2);(case s4=>exact (Kd.R_reads' HR1.out).2.1);(case s5=>exact (Kd.R_reads' (Kd.R_far (p:=⟨gb2,3,none⟩) (Kd.R_far (p:=⟨gb2,2,none⟩) (Kd.R_far (p:=⟨gb2,1,none⟩) (Kd.R_types HR2.out BK2.out (by decide)) (fun _ hk=>hk.2) (.slice A0 x0.length c0)) (fun _ hk=>hk.2) (.slice A1 x1.length c1)) (fun _ hk=>hk.2) (.slice A2 x2.length c2))).2.2);(case s6=>exact (Kd.R_reads' HR2.out).2.1);rintro e w10 ⟨rfl,hb⟩;have n0_:=Aside0.mk (blk_below (g:=gb1) (o:=.cells #[.int .i64 0,.slice none 0 0,.slice none 0 0,.slice none 0 0] 24 (0,0)) qz108 hb);have n1_:=Aside0.mk (blk_below (g:=gb2) (o:=.cells #[.int .i64 q.1,.slice A0 x0.length c0,.slice A1 x1.length c1,.slice A2 x2.length c2] 24 (0,0)) qz80 hb);have n2_:=Aside0.mk (below_step qz17 hb);have m0_:=Aside0.mk (Kd.R_below (Kd.R_far (p:=⟨gb2,3,none⟩) (Kd.R_far (p:=⟨gb2,2,none⟩) (Kd.R_far (p:=⟨gb2,1,none⟩) (Kd.R_types HR0.out BK2.out (by decide)) (fun _ hk=>hk.2) (.slice A0 x0.length c0)) (fun _ hk=>hk.2) (.slice A1 x1.length c1)) (fun _ hk=>hk.2) (.slice A2 x2.length c2)) hb);have m1_:=Aside0.mk (Kd.R_below (Kd.R_far (p:=⟨gb2,3,none⟩) (Kd.R_far (p:=⟨gb2,2,none⟩) (Kd.R_far (p:=⟨gb2,1,none⟩) (Kd.R_types HR1.out BK2.out (by decide)) (fun _ hk=>hk.2) (.slice A0 x0.length c0)) (fun _ hk=>hk.2) (.slice A1 x1.length c1)) (fun _ hk=>hk.2) (.slice A2 x2.length c2)) hb);have m2_:=Aside0.mk (Kd.R_below (Kd.R_far (p:=⟨gb2,3,none⟩) (Kd.R_far (p:=⟨gb2,2,none⟩) (Kd.R_far (p:=⟨gb2,1,none⟩) (Kd.R_types HR2.out BK2.out (by decide)) (fun _ hk=>hk.2) (.slice A0 x0.length c0)) (fun _ hk=>hk.2) (.slice A1 x1.length c1)) (fun _ hk=>hk.2) (.slice A2 x2.length c2)) hb);clear HR0;have HR0:=m0_;clear HR1;have HR1:=m1_;clear HR2;have HR2:=m2_;clear BK1 BK2 HB;have BK1:=n0_;have BK2:=n1_;have HB:=n2_;clear n0_ n1_ n2_ m0_ m1_ m2_ hb;have hzh_0:w10.cell? ⟨gb1,0,none⟩=some (.int .i64 0):=(blk_cell BK1.out 0).trans rfl;have hzh_1:w10.cell? ⟨gb1,1,none⟩=some (.slice none 0 0):=(blk_cell BK1.out 1).trans rfl;have hzh_2:w10.cell? ⟨gb1,2,none⟩=some (.slice none 0 0):=(blk_cell BK1.out 2).trans rfl;have hzh_3:w10.cell? ⟨gb1,3,none⟩=some (.slice none 0 0):=(blk_cell BK1.out 3).trans rfl;have hfh_0:=blk_frozen BK1.out 0;have hfh_1:=blk_frozen BK1.out 1;have hfh_2:=blk_frozen BK1.out 2;have hfh_3:=blk_frozen BK1.out 3;have hzi_0:w10.cell? ⟨gb2,0,none⟩=some (.int .i64 q.1):=(blk_cell BK2.out 0).trans rfl;have hzi_1:w10.cell? ⟨gb2,1,none⟩=some (.slice A0 x0.length c0):=(blk_cell BK2.out 1).trans rfl;have hzi_2:w10.cell? ⟨gb2,2,none⟩=some (.slice A1 x1.length c1):=(blk_cell BK2.out 2).trans rfl;have hzi_3:w10.cell? ⟨gb2,3,none⟩=some (.slice A2 x2.length c2):=(blk_cell BK2.out 3).trans rfl;have hfi_0:=blk_frozen BK2.out 0;have hfi_1:=blk_frozen BK2.out 1;have hfi_2:=blk_frozen BK2.out 2;have hfi_3:=blk_frozen BK2.out 3))
       refine bodyPost_ret (results_ct rfl _ _ gb1 24 #[.int .i64 0,.slice none 0 0,.slice none 0 0,.slice none 0 0] (0,0) _ rfl qz13 hu rfl (by kernel_rfl)) rfl ?_
       exact ⟨_,_,_,rfl,Kd.R_nil _ _ _ _ _,Kd.R_nil _ _ _ _ _,Kd.R_nil _ _ _ _ _,qz17⟩
      | true=>
       simp only [if_true,Option.some.injEq,Prod.mk.injEq] at h4
       obtain ⟨rfl,rfl,rfl,rfl,rfl⟩:=h4
       go_wp2_with ((go_at_call 17;(with_reducible refine (spec_GoalOk.calls k q.1 _ _ x0 _ _ x1 _ _ x2 true _ ?s1 ?s2 ?s3 ?s4 ?s5 ?s6 HG.out).mono ?_);(case s1=>exact (Kd.R_reads' (Kd.R_far (p:=⟨gb2,3,none⟩) (Kd.R_far (p:=⟨gb2,2,none⟩) (Kd.R_far (p:=⟨gb2,1,none⟩) (Kd.R_types HR0.out BK2.out (by decide)) (fun _ hk=>hk.2) (.slice A0 x0.length c0)) (fun _ hk=>hk.2) (.slice A1 x1.length c1)) (fun _ hk=>hk.2) (.slice A2 x2.length c2))).2.2);(case s2=>exact (Kd.R_reads' HR0.out).2.1);(case s3=>exact (Kd.R_reads' (Kd.R_far (p:=⟨gb2,3,none⟩) (Kd.R_far (p:=⟨gb2,2,none⟩) (Kd.R_far (p:=⟨gb2,1,none⟩) (Kd.R_types HR1.out BK2.out (by decide)) (fun _ hk=>hk.2) (.slice A0 x0.length c0)) (fun _ hk=>hk.2) (.slice A1 x1.length c1)) (fun _ hk=>hk.2) (.slice A2 x2.length c2))).2.2);(case s4=>exact (Kd.R_reads' HR1.out).2.1);(case s5=>exact (Kd.R_reads' (Kd.R_far (p:=⟨gb2,3,none⟩) (Kd.R_far (p:=⟨gb2,2,none⟩) (Kd.R_far (p:=⟨gb2,1,none⟩) (Kd.R_types HR2.out BK2.out (by decide)) (fun _ hk=>hk.2) (.slice A0 x0.length c0)) (fun _ hk=>hk.2) (.slice A1 x1.length c1)) (fun _ hk=>hk.2) (.slice A2 x2.length c2))).2.2);(case s6=>exact (Kd.R_reads' HR2.out).2.1);rintro e w10 ⟨rfl,hb⟩;have n0_:=Aside0.mk (blk_below (g:=gb1) (o:=.cells #[.int .i64 0,.slice none 0 0,.slice none 0 0,.slice none 0 0] 24 (0,0)) qz108 hb);have n1_:=Aside0.mk (blk_below (g:=gb2) (o:=.cells #[.int .i64 q.1,.slice A0 x0.length c0,.slice A1 x1.length c1,.slice A2 x2.length c2] 24 (0,0)) qz80 hb);have n2_:=Aside0.mk (below_step qz17 hb);have m0_:=Aside0.mk (Kd.R_below (Kd.R_far (p:=⟨gb2,3,none⟩) (Kd.R_far (p:=⟨gb2,2,none⟩) (Kd.R_far (p:=⟨gb2,1,none⟩) (Kd.R_types HR0.out BK2.out (by decide)) (fun _ hk=>hk.2) (.slice A0 x0.length c0)) (fun _ hk=>hk.2) (.slice A1 x1.length c1)) (fun _ hk=>hk.2) (.slice A2 x2.length c2)) hb);have m1_:=Aside0.mk (Kd.R_below (Kd.R_far (p:=⟨gb2,3,none⟩) (Kd.R_far (p:=⟨gb2,2,none⟩) (Kd.R_far (p:=⟨gb2,1,none⟩) (Kd.R_types HR1.out BK2.out (by decide)) (fun _ hk=>hk.2) (.slice A0 x0.length c0)) (fun _ hk=>hk.2) (.slice A1 x1.length c1)) (fun _ hk=>hk.2) (.slice A2 x2.length c2)) hb);have m2_:=Aside0.mk (Kd.R_below (Kd.R_far (p:=⟨gb2,3,none⟩) (Kd.R_far (p:=⟨gb2,2,none⟩) (Kd.R_far (p:=⟨gb2,1,none⟩) (Kd.R_types HR2.out BK2.out (by decide)) (fun _ hk=>hk.2) (.slice A0 x0.length c0)) (fun _ hk=>hk.2) (.slice A1 x1.length c1)) (fun _ hk=>hk.2) (.slice A2 x2.length c2)) hb);clear HR0;have HR0:=m0_;clear HR1;have HR1:=m1_;clear HR2;have HR2:=m2_;clear BK1 BK2 HB;have BK1:=n0_;have BK2:=n1_;have HB:=n2_;clear n0_ n1_ n2_ m0_ m1_ m2_ hb;have hzh_0:w10.cell? ⟨gb1,0,none⟩=some (.int .i64 0):=(blk_cell BK1.out 0).trans rfl;have hzh_1:w10.cell? ⟨gb1,1,none⟩=some (.slice none 0 0):=(blk_cell BK1.out 1).trans rfl;have hzh_2:w10.cell? ⟨gb1,2,none⟩=some (.slice none 0 0):=(blk_cell BK1.out 2).trans rfl;have hzh_3:w10.cell? ⟨gb1,3,none⟩=some (.slice none 0 0):=(blk_cell BK1.out 3).trans rfl;have hfh_0:=blk_frozen BK1.out 0;have hfh_1:=blk_frozen BK1.out 1;have hfh_2:=blk_frozen BK1.out 2;have hfh_3:=blk_frozen BK1.out 3;have hzi_0:w10.cell? ⟨gb2,0,none⟩=some (.int .i64 q.1):=(blk_cell BK2.out 0).trans rfl;have hzi_1:w10.cell? ⟨gb2,1,none⟩=some (.slice A0 x0.length c0):=(blk_cell BK2.out 1).trans rfl;have hzi_2:w10.cell? ⟨gb2,2,none⟩=some (.slice A1 x1.length c1):=(blk_cell BK2.out 2).trans rfl;have hzi_3:w10.cell? ⟨gb2,3,none⟩=some (.slice A2 x2.length c2):=(blk_cell BK2.out 3).trans rfl;have hfi_0:=blk_frozen BK2.out 0;have hfi_1:=blk_frozen BK2.out 1;have hfi_2:=blk_frozen BK2.out 2;have hfi_3:=blk_frozen BK2.out 3))
       refine bodyPost_ret (results_ct rfl _ _ gb1 24 #[.int .i64 q.1,.slice A0 x0.length c0,.slice A1 x1.length c1,.slice A2 x2.length c2] (0,0) _ rfl qz71 hu rfl (by kernel_rfl)) rfl ?_
       exact ⟨_,_,_,rfl,(Kd.R_mono (Kd.R_far (p:=⟨gb1,3,none⟩) (Kd.R_far (p:=⟨gb1,2,none⟩) (Kd.R_far (p:=⟨gb1,1,none⟩) (Kd.R_far (p:=⟨gb1,0,none⟩) (Kd.R_types HR0.out BK1.out (by decide)) (fun _ hk=>hk.2) (.int .i64 q.1)) (fun _ hk=>hk.2) (.slice A0 x0.length c0)) (fun _ hk=>hk.2) (.slice A1 x1.length c1)) (fun _ hk=>hk.2) (.slice A2 x2.length c2)) (fun k_ hk=>⟨AP01.out k_ hk.1.1,AP02.out k_ hk.1.1⟩)),(Kd.R_mono (Kd.R_far (p:=⟨gb1,3,none⟩) (Kd.R_far (p:=⟨gb1,2,none⟩) (Kd.R_far (p:=⟨gb1,1,none⟩) (Kd.R_far (p:=⟨gb1,0,none⟩) (Kd.R_types HR1.out BK1.out (by decide)) (fun _ hk=>hk.2) (.int .i64 q.1)) (fun _ hk=>hk.2) (.slice A0 x0.length c0)) (fun _ hk=>hk.2) (.slice A1 x1.length c1)) (fun _ hk=>hk.2) (.slice A2 x2.length c2)) (fun k_ hk=>⟨AP10.out k_ hk.1.1,AP12.out k_ hk.1.1⟩)),(Kd.R_mono (Kd.R_far (p:=⟨gb1,3,none⟩) (Kd.R_far (p:=⟨gb1,2,none⟩) (Kd.R_far (p:=⟨gb1,1,none⟩) (Kd.R_far (p:=⟨gb1,0,none⟩) (Kd.R_types HR2.out BK1.out (by decide)) (fun _ hk=>hk.2) (.int .i64 q.1)) (fun _ hk=>hk.2) (.slice A0 x0.length c0)) (fun _ hk=>hk.2) (.slice A1 x1.length c1)) (fun _ hk=>hk.2) (.slice A2 x2.length c2)) (fun k_ hk=>⟨AP20.out k_ hk.1.1,AP21.out k_ hk.1.1⟩)),qz17⟩

/-! ### impl_in: function 68 -/
def impl_in.f (a0:Int) (a1:Int) (a2:Int):Option (Bool):=if a0≥a1 then (some (decide (a0≤a2))) else (some false)
set_option maxHeartbeats 8000000 in
set_option maxRecDepth 100000 in
theorem impl_in.calls (a0:Int) (a1:Int) (a2:Int) (r:Bool) (w:World) (h:impl_in.f a0 a1 a2=some r) :
  Calls Tryz.prog 68 #[.int .i64 a0,.int .i64 a1,.int .i64 a2] w fun e w'=>e = .returned (.bool r)∧Drawn0 w w':=by
 have H:(if a0≥a1 then (some (decide (a0≤a2))) else (some false))=some r:=h
 clear h
 by_cases c4:a0≥a1
 ·rw [if_pos c4] at H
  have c4b0:decide (a1≤a0)=true:=decide_eq_true c4
  clear c4
  obtain rfl:=Option.some.inj H
  go_enter Tryz.func68,Tryz.ntmps68
  go_wp2
  go_ret
  exact ⟨qz9,qz33⟩
 ·rw [if_neg c4] at H
  have c4b0:decide (a1≤a0)=false:=decide_eq_false c4
  clear c4
  obtain rfl:=Option.some.inj H
  go_enter Tryz.func68,Tryz.ntmps68
  go_wp2
  go_ret
  exact ⟨qz9,qz33⟩

/-! ### strings_Trim: function 111 -/
/-- strings.Trim at an ASCII cutset: the shelf's. -/
def strings_Trim.f (a0:ByteArray) (a1:ByteArray):Option (ByteArray):=if a0.size≤9223372036854775807 then (if a1.size<4294967281 then (if a1.data.toList.all (fun b=>decide (b.toNat<128)) then some (⟨(Lib.trimS a0.data.toList a1.data.toList).toArray⟩:ByteArray) else none) else none) else none
theorem strings_Trim.calls (a0:ByteArray) (a1:ByteArray) (r:ByteArray) (w:World) (h:strings_Trim.f a0 a1=some r) :
  Calls Tryz.prog 111 #[.string a0,.string a1] w fun e w'=>e = .returned (.string r)∧Below w.heap.size w w':=by
 unfold strings_Trim.f at h
 by_cases h1:a0.size≤9223372036854775807
 case neg=>rw [if_neg h1] at h;cases h
 rw [if_pos h1] at h
 by_cases h2:a1.size<4294967281
 case neg=>rw [if_neg h2] at h;cases h
 rw [if_pos h2] at h
 by_cases h3:a1.data.toList.all (fun b=>decide (b.toNat<128))=true
 case neg=>rw [if_neg h3] at h;cases h
 rw [if_pos h3] at h
 obtain rfl:=Option.some.inj h
 refine Tryz.trim_set a0 a1 w h1 h2 ?_
 intro j b hj
 have:=List.all_eq_true.1 h3 b (List.mem_of_getElem? hj)
 simpa using this

/-! ### impl_nameOk: function 93 -/
def impl_nameOk.f (a0:ByteArray):Option (Bool):=(impl_in.f (a0.size:Int) 1 8).bind fun t212=>(if t212=true then ((strings_Trim.f a0 (⟨#[97,98,99,100,101,102,103,104,105,106,107,108,109,110,111,112,113,114,115,116,117,118,119,120,121,122]⟩:ByteArray)).bind fun t213=>(if t213.toList=([]:List UInt8) then (some (a0.toList != ([97,110,100]:List UInt8))) else (some false))) else (some false))
set_option maxHeartbeats 8000000 in
set_option maxRecDepth 100000 in
theorem impl_nameOk.calls (a0:ByteArray) (r:Bool) (w:World) (h:impl_nameOk.f a0=some r) :
  Calls Tryz.prog 93 #[.string a0] w fun e w'=>e = .returned (.bool r)∧Below w.heap.size w w':=by
 have HB:=Aside0.mk (Below.refl w.heap.size w)
 have H:((impl_in.f (a0.size:Int) 1 8).bind fun t212=>(if t212=true then ((strings_Trim.f a0 (⟨#[97,98,99,100,101,102,103,104,105,106,107,108,109,110,111,112,113,114,115,116,117,118,119,120,121,122]⟩:ByteArray)).bind fun t213=>(if t213.toList=([]:List UInt8) then (some (a0.toList != ([97,110,100]:List UInt8))) else (some false))) else (some false)))=some r:=h
 clear h
 replace H:=Option.bind_eq_some_iff.mp H
 obtain ⟨t212,A20,H⟩:=H
 try dsimp only at H
 have A2:=Aside0.mk A20
 clear A20
 by_cases c3:t212=true
 ·subst c3
  have H1:((strings_Trim.f a0 (⟨#[97,98,99,100,101,102,103,104,105,106,107,108,109,110,111,112,113,114,115,116,117,118,119,120,121,122]⟩:ByteArray)).bind fun t213=>(if t213.toList=([]:List UInt8) then (some (a0.toList != ([97,110,100]:List UInt8))) else (some false)))=some r:=qz57
  clear H
  have H:=H1
  clear H1
  replace H:=Option.bind_eq_some_iff.mp H
  obtain ⟨t213,A40,H⟩:=H
  try dsimp only at H
  have A4:=Aside0.mk A40
  clear A40
  by_cases c5:t213.toList=([]:List UInt8)
  ·rw [if_pos c5] at H
   have c5b0:(t213.toList == ([]:List UInt8))=true:=beq_iff_eq.mpr c5
   have c5b1:(t213.toList != ([]:List UInt8))=false:=bne_eq_false_iff_eq.mpr c5
   clear c5
   obtain rfl:=Option.some.inj H
   go_enter Tryz.func93,Tryz.ntmps93
   go_wp2_with (first|((with_reducible refine gate_callee (f:=68) rfl ?_);refine goesL_ (some 5) rfl rfl Tryz.func68 (by kernel_rfl) rfl #[.int .i64 (a0.size:Int),.int .i64 1,.int .i64 8] rfl qz2 ?_;(with_reducible refine (impl_in.calls (a0.size:Int) 1 8 true _ A2.out).mono ?_);rintro e w' ⟨rfl,⟨nd,rfl⟩⟩;refine ⟨_,rfl,?_⟩)|(go_at_call 111;(with_reducible refine (strings_Trim.calls a0 (⟨#[97,98,99,100,101,102,103,104,105,106,107,108,109,110,111,112,113,114,115,116,117,118,119,120,121,122]⟩:ByteArray) t213 _ A4.out).mono ?_);rintro e w6 ⟨rfl,hb⟩;have n0_:=Aside0.mk (below_step qz1 hb);clear HB;have HB:=n0_;clear n0_;(try clear hb);(try clear hb2);(try clear hk);(try clear hi)))
   go_ret
   exact ⟨qz4,qz3⟩
  ·rw [if_neg c5] at H
   have c5b0:(t213.toList == ([]:List UInt8))=false:=beq_eq_false_iff_ne.mpr c5
   have c5b1:(t213.toList != ([]:List UInt8))=true:=bne_iff_ne.mpr c5
   obtain rfl:=Option.some.inj H
   go_enter Tryz.func93,Tryz.ntmps93
   go_wp2_with (first|((with_reducible refine gate_callee (f:=68) rfl ?_);refine goesL_ (some 5) rfl rfl Tryz.func68 (by kernel_rfl) rfl #[.int .i64 (a0.size:Int),.int .i64 1,.int .i64 8] rfl qz2 ?_;(with_reducible refine (impl_in.calls (a0.size:Int) 1 8 true _ A2.out).mono ?_);rintro e w' ⟨rfl,⟨nd,rfl⟩⟩;refine ⟨_,rfl,?_⟩)|(go_at_call 111;(with_reducible refine (strings_Trim.calls a0 (⟨#[97,98,99,100,101,102,103,104,105,106,107,108,109,110,111,112,113,114,115,116,117,118,119,120,121,122]⟩:ByteArray) t213 _ A4.out).mono ?_);rintro e w7 ⟨rfl,hb⟩;have n0_:=Aside0.mk (below_step qz1 hb);clear HB;have HB:=n0_;clear n0_;(try clear hb);(try clear hb2);(try clear hk);(try clear hi)))
   go_ret
   exact ⟨qz4,qz3⟩
 ·replace c3:=Bool.eq_false_iff.mpr c3
  subst c3
  have H1:(some false)=some r:=qz23
  clear H
  have H:=H1
  clear H1
  obtain rfl:=Option.some.inj H
  go_enter Tryz.func93,Tryz.ntmps93
  go_wp2_with (first|((with_reducible refine gate_callee (f:=68) rfl ?_);refine goesL_ (some 5) rfl rfl Tryz.func68 (by kernel_rfl) rfl #[.int .i64 (a0.size:Int),.int .i64 1,.int .i64 8] rfl qz2 ?_;(with_reducible refine (impl_in.calls (a0.size:Int) 1 8 false _ A2.out).mono ?_);rintro e w' ⟨rfl,⟨nd,rfl⟩⟩;refine ⟨_,rfl,?_⟩))
  go_ret
  exact ⟨qz4,qz3⟩

end Go.Proofs.YtlhniagacegbeaaGreatDoor.P
