/- Contracts of functions of the program: each as a Lean function, and that its call does what that says; printed by cprint.py (this session) over print.py of the kit. Conditions: the hypotheses of each theorem. -/
import Derived.Test.YtibencknfheplaaGreatDoorVZ
import Derived.Test.YtibencknfheplaaGreatDoorP0
import Derived.Test.YtibencknfheplaaGreatDoorP4
namespace Go.Proofs.YtibencknfheplaaGreatDoor.P
open Go.RowKit Go.Proofs.YtibencknfheplaaGreatDoorW.PrintWords Go.Proofs.YtibencknfheplaaGreatDoorW.PrintLast Go.Proofs.YtibencknfheplaaGreatDoorW.PrintMore
attribute [local go_sem] max2_int min2_int max_two min_two max_three min_three max_four min_four   -- for this text's walks alone
set_option linter.unusedVariables false
set_option linter.unusedSimpArgs false

/-! ### impl_size: function 27 -/
def impl_size.l0:Nat→List (S43)→Int→Int→Option (Int)
 | 0,_,_,_=>none
 | k+1,x0,x3,x4=>if x4<x3 then (if x4=(x0.length:Int) then (some (wrap64 ((x0.length:Int)+1))) else (if 0≤x4 then (if x4<(x0.length:Int) then ((impl_TrmCell_arity.f ((rd_T43 x0 x4).f0) ((rd_T43 x0 x4).f1) ((rd_T43 x0 x4).f2)).bind fun t298=>(impl_size.l0 k x0 (wrap64 (x3+t298)) (wrap64 (x4+1)))) else (none)) else (none))) else (some x3)
def impl_size.f (k:Nat) (l0:List (S43)):Option (Int):=impl_size.l0 k l0 1 0
set_option maxHeartbeats 8000000 in
set_option maxRecDepth 100000 in
theorem impl_size.calls (k:Nat) (A0:Option Addr) (c0:Nat) (l0:List (S43)) (r:Int) (w:World) (hr0:Kd.C k43 w A0 l0.length l0) (hc0:l0.length≤c0) (h:impl_size.f k l0=some r) :
  Calls Tryz.prog 27 #[.slice A0 l0.length c0] w fun e w'=>e = .returned (.int .i64 r)∧Below w.heap.size w w':=by
 have hu43:=Tryz.underlying43
 have HR0:=Aside0.mk hr0
 have HC0:=Aside0.mk hc0
 clear hr0 hc0
 have HB:=Aside0.mk (Below.refl w.heap.size w)
 have H:(impl_size.l0 k l0 1 0)=some r:=h
 clear h
 have H':=Aside0.mk H
 clear H
 go_enter Tryz.func27,Tryz.ntmps27
 go_wp2
 go_loopg [3,4] k (fun kq v3 v4 w'=>∃ (x3_1:Int) (x4_1:Int),v3 = .int .i64 x3_1∧v4 = .int .i64 x4_1∧Aside0 (impl_size.l0 kq l0 x3_1 x4_1=some r)∧Aside0 (kq≤k)∧Aside0 (Below w.heap.size w w'))
 case atStart=>exact ⟨(1),(0),qz9,qz9,H',⟨Nat.le_refl _⟩,⟨qz7⟩⟩
 case round=>
  clear H'
  obtain ⟨x3_1,x4_1,rfl,rfl,HA,HK1,HB⟩:=hrel
  cases gk with
  | zero=>exact absurd HA.out (by simp [impl_size.l0])
  | succ k1=>
   have H:=HA.out
   clear HA
   simp only [impl_size.l0] at H
   by_cases c2:x4_1<x3_1
   ·rw [if_pos c2] at H
    have c2b0:decide (x4_1<x3_1)=true:=decide_eq_true c2
    clear c2
    by_cases c3:x4_1=(l0.length:Int)
    ·rw [if_pos c3] at H
     have c3b0:(x4_1 == (l0.length:Int))=true:=beq_iff_eq.mpr c3
     have c3b1:(x4_1 != (l0.length:Int))=false:=bne_eq_false_iff_eq.mpr c3
     clear c3
     obtain rfl:=Option.some.inj H
     go_wp2
     go_ret
     exact ⟨qz8,qz7⟩
    ·rw [if_neg c3] at H
     have c3b0:(x4_1 == (l0.length:Int))=false:=beq_eq_false_iff_ne.mpr c3
     have c3b1:(x4_1 != (l0.length:Int))=true:=bne_iff_ne.mpr c3
     by_cases c4:0≤x4_1
     ·rw [if_pos c4] at H
      have c4b0:decide (0≤x4_1)=true:=decide_eq_true c4
      clear c4
      by_cases c5:x4_1<(l0.length:Int)
      ·rw [if_pos c5] at H
       have c5b0:decide (x4_1<(l0.length:Int))=true:=decide_eq_true c5
       clear c5
       replace H:=Option.bind_eq_some_iff.mp H
       obtain ⟨t298,A60,H⟩:=H
       try dsimp only at H
       have A6:=Aside0.mk A60
       clear A60
       have H':=Aside0.mk H
       clear H
       have p297:0≤(x4_1:Int):=of_decide_eq_true qz6
       have q297:x4_1<(l0.length:Int):=of_decide_eq_true qz6
       obtain ⟨ad297,e297,hx297_0,hx297_1,hx297_2⟩:=at_T43 HR0.out x4_1 p297 q297
       cases e297
       replace hx297_0:=(HB.out.cell (World.block_lt_of_cell? w _ hx297_0)).trans hx297_0
       replace hx297_1:=(HB.out.cell (World.block_lt_of_cell? w _ hx297_1)).trans hx297_1
       replace hx297_2:=(HB.out.cell (World.block_lt_of_cell? w _ hx297_2)).trans hx297_2
       replace p297:=eq_true p297
       replace q297:=eq_true q297
       go_wp2_with (first|((with_reducible refine gate_callee (f:=42) rfl ?_);refine goesL_ (some 22) rfl rfl Tryz.func42 (by kernel_rfl) rfl #[.agg #[.int .i64 ((rd_T43 l0 x4_1).f0),.int .i64 ((rd_T43 l0 x4_1).f1),.string ((rd_T43 l0 x4_1).f2)]] rfl qz4 ?_;(with_reducible refine (impl_TrmCell_arity.calls ((rd_T43 l0 x4_1).f0) ((rd_T43 l0 x4_1).f1) ((rd_T43 l0 x4_1).f2) t298 _ A6.out).mono ?_);rintro e w7 ⟨rfl,hb⟩;refine ⟨_,rfl,?_⟩;have n0_:=Aside0.mk (below_step qz5 hb);clear HB;have HB:=n0_;clear n0_;(try clear hb);(try clear hb2);(try clear hk);(try clear hi)))
       go_roundg k1
       case measure=>have:=HK1.out;omega
       case rel=>exact ⟨(wrap64 (x3_1+t298)),(wrap64 (x4_1+1)),qz9,qz9,H',⟨by have:=HK1.out;omega⟩,⟨qz7⟩⟩
      ·rw [if_neg c5] at H
       exact absurd H (by simp)
     ·rw [if_neg c4] at H
      exact absurd H (by simp)
   ·rw [if_neg c2] at H
    have c2b0:decide (x4_1<x3_1)=false:=decide_eq_false c2
    clear c2
    obtain rfl:=Option.some.inj H
    go_wp2
    go_ret
    exact ⟨qz8,qz7⟩

/-! ### impl_TrmOk: function 11 -/
/-- which place is the first of which p holds; -1, if none is -/
def firstAt (p:Cat.Cell→Bool):List Cat.Cell→Nat→Int
 | [],_=>-1
 | c :: l,i=>if p c then (i:Int) else firstAt p l (i+1)
theorem firstAt_any (p:Cat.Cell→Bool):∀ (l:List Cat.Cell) (i:Nat),decide (firstAt p l i≥0)=l.any p
 | [],i=>by simp [firstAt]
 | c :: l,i=>by
  unfold firstAt
  by_cases h:p c=true
  ·simp [h]
  ·have h':p c=false:=by simpa using h
   simp only [h',List.any_cons,Bool.false_or]
   exact firstAt_any p l (i+1)
theorem firstAt_drop (p:Cat.Cell→Bool) (l:List Cat.Cell) (i:Nat) (h:i<l.length):firstAt p (l.drop i) i=if p (rd_T43 l (i:Int)) then (i:Int) else firstAt p (l.drop (i+1)) (i+1):=by
 rw [List.drop_eq_getElem_cons h]
 have:rd_T43 l (i:Int)=l[i]:=by simp [rd_T43,List.getD,h]
 rw [this]
 rfl
/-- what is asked of a predicate on places: it answers p, and what lay before it lies as it lay -/
def PredC (g:Nat) (lb:Array Value) (p:Cat.Cell→Bool) (w:World):Prop:=
 ∀ (W:World) (x:Cat.Cell),Below w.heap.size w W→Calls Tryz.prog g (#[.agg #[.int .i64 x.f0,.int .i64 x.f1,.string x.f2]]++lb) W fun e w'=>e = .returned (.bool (p x))∧Below W.heap.size W w'
set_option maxHeartbeats 4000000 in
set_option maxRecDepth 100000 in
theorem indexFunc_cells (g:Nat) (lb:Array Value) (p:Cat.Cell→Bool) (eg:∀ args w,(callFunc g args).run Tryz.prog w = .ok (.enter g args) w) (A0:Option Addr) (c0:Nat) (l0:List (S43)) (w:World)
  (hr0:Kd.C k43 w A0 l0.length l0) (hc0:l0.length≤c0) (hp:PredC g lb p w) :
  Calls Tryz.prog 45 #[.slice A0 l0.length c0,.func (.func g) #[] lb] w fun e w'=>e = .returned (.int .i64 (firstAt p l0 0))∧Below w.heap.size w w':=by
 have HR:=Aside0.mk hr0
 have HP:=Aside0.mk hp
 have hm:l0.length≤9223372036854775807:=hr0.2.1
 clear hr0 hp
 go_enter Tryz.func45,Tryz.ntmps45
 go_wp2
 go_loopg [5,8] l0.length (fun gg _ s8 wr=>∃ kk:Nat,kk≤l0.length∧l0.length - kk≤gg∧s8 = .int .i64 kk∧Aside0 (Below w.heap.size w wr)∧Aside0 (firstAt p l0 0=firstAt p (l0.drop kk) kk))
 case atStart=>exact ⟨0,Nat.zero_le _,by omega,rfl,⟨Below.refl _ w⟩,⟨rfl⟩⟩
 case round=>
  obtain ⟨kk,hkk,hg,rfl,BW,A⟩:=hrel
  by_cases hlt:kk<l0.length
  ·have hltz:(kk:Int)<(l0.length:Int):=by omega
   have hfd:=Aside0.mk (firstAt_drop p l0 kk hlt)
   obtain ⟨ad,e1,hx0,hx1,hx2⟩:=at_T43 HR.out (kk:Int) (by omega) hltz
   cases e1
   rw [Int.toNat_natCast] at hx0 hx1 hx2
   replace hx0:=(BW.out.cell (World.block_lt_of_cell? w _ hx0)).trans hx0
   replace hx1:=(BW.out.cell (World.block_lt_of_cell? w _ hx1)).trans hx1
   replace hx2:=(BW.out.cell (World.block_lt_of_cell? w _ hx2)).trans hx2
   have hcall:=HP.out wr (rd_T43 l0 (kk:Int)) BW.out
   generalize hy:rd_T43 l0 (kk:Int)=y at hx0 hx1 hx2 hcall
   have B:=Aside0.mk hy
   clear hy
   cases hq:p y with
   | true=>
    rw [hq] at hcall
    have Q:=Aside0.mk hq
    clear hq
    go_wp2_with (go_at_fn g;refine hcall.mono ?_;rintro e w' ⟨rfl,hb'⟩)
    go_ret
    refine ⟨?_,below_step BW.out hb'⟩
    rw [A.out,hfd.out,B.out,if_pos Q.out]
    rfl
   | false=>
    rw [hq] at hcall
    have Q:=Aside0.mk hq
    clear hq
    go_wp2_with (go_at_fn g;refine hcall.mono ?_;rintro e w' ⟨rfl,hb'⟩)
    go_roundg (l0.length - (kk+1))
    case measure=>omega
    case rel=>
     refine ⟨kk+1,by omega,by omega,by go_num,⟨below_step BW.out hb'⟩,⟨?_⟩⟩
     rw [A.out,hfd.out,B.out,if_neg (by rw [Q.out];simp)]
  ·have hltz:¬ (kk:Int)<(l0.length:Int):=by omega
   have e:kk=l0.length:=by omega
   have hE:=Aside0.mk e
   clear e
   go_wp2
   go_ret
   refine ⟨?_,BW.out⟩
   rw [A.out,hE.out,List.drop_length]
   rfl
theorem in_pure (a b c:Int):impl_in.f a b c=some (decide (b≤a∧a≤c)):=by
 unfold impl_in.f
 by_cases h:a≥b
 ·rw [if_pos h]
  have:b≤a:=h
  simp [this]
 ·rw [if_neg h]
  have:¬ b≤a:=h
  simp [this]
theorem dropWhile_nil {α:Type} (p:α→Bool):∀ l:List α,l.dropWhile p=[]↔∀ x ∈ l,p x=true
 | []=>by simp
 | a :: l=>by
  rw [List.dropWhile_cons]
  by_cases h:p a=true
  ·rw [if_pos h,dropWhile_nil p l];simp [h]
  ·rw [if_neg h];simp [h]
theorem dropWhile_head {α:Type} (p:α→Bool):∀ (l:List α) (h:l.dropWhile p≠[]),p ((l.dropWhile p).head h)=false
 | [],h=>absurd rfl h
 | a :: l,h=>by
  by_cases ha:p a=true
  ·have e:(a :: l).dropWhile p=l.dropWhile p:=by rw [List.dropWhile_cons,if_pos ha]
   have:=dropWhile_head p l (by rw [← e];exact h)
   simpa only [e] using this
  ·have e:(a :: l).dropWhile p=a :: l:=by rw [List.dropWhile_cons,if_neg ha]
   simp only [e,List.head_cons]
   simpa using ha
set_option maxRecDepth 100000 in
theorem trim_az (l:List UInt8):(Lib.trimS l [97,98,99,100,101,102,103,104,105,106,107,108,109,110,111,112,113,114,115,116,117,118,119,120,121,122]=[])↔l.all (fun b=>decide (97≤b.toNat∧b.toNat≤122))=true:=by
 have hc:∀ b:UInt8,([97,98,99,100,101,102,103,104,105,106,107,108,109,110,111,112,113,114,115,116,117,118,119,120,121,122]:List UInt8).contains b=decide (97≤b.toNat∧b.toNat≤122):=by
  intro b
  have:∀ n:Fin 256,([97,98,99,100,101,102,103,104,105,106,107,108,109,110,111,112,113,114,115,116,117,118,119,120,121,122]:List UInt8).contains (UInt8.ofNat n.val)=decide (97≤(UInt8.ofNat n.val).toNat∧(UInt8.ofNat n.val).toNat≤122):=by decide
  have h2:=this ⟨b.toNat,b.toNat_lt⟩
  simpa using h2
 unfold Lib.trimS Lib.trimLeftS Lib.trimRightS
 simp only [hc]
 rw [dropWhile_nil]
 rw [List.all_eq_true]
 constructor
 ·intro h x hx
  by_cases hd:(l.reverse.dropWhile fun b=>decide (97≤b.toNat∧b.toNat≤122))=[]
  ·rw [dropWhile_nil] at hd
   exact hd x (by simpa using hx)
  ·exfalso
   have h1:=dropWhile_head (fun b:UInt8=>decide (97≤b.toNat∧b.toNat≤122)) l.reverse hd
   have h2:=h ((l.reverse.dropWhile fun b=>decide (97≤b.toNat∧b.toNat≤122)).head hd) (by simp)
   rw [h1] at h2
   cases h2
 ·intro h x hx
  have:x ∈ l.reverse.dropWhile (fun b:UInt8=>decide (97≤b.toNat∧b.toNat≤122)):=by simpa using hx
  exact h x (by simpa using (List.dropWhile_sublist _).mem this)
theorem nameOk_pure (s:ByteArray):impl_nameOk.f s=some (Cat.nameOk s):=by
 have hs:s.data.toList.length=s.size:=by rw [Array.length_toList];rfl
 unfold impl_nameOk.f
 rw [in_pure]
 simp only [Option.bind_some]
 unfold Cat.nameOk Cat.nameOkL
 rw [hs]
 by_cases h:(1:Int)≤(s.size:Int)∧(s.size:Int)≤8
 ·have h':1≤s.size∧s.size≤8:=by omega
  rw [if_pos (by simpa using h)]
  unfold strings_Trim.f
  rw [if_pos (by omega),if_pos (by decide),if_pos (by decide)]
  simp only [Option.bind_some,ByteArray.toList_eq]
  have ha:=trim_az s.data.toList
  by_cases hz:s.data.toList.all (fun b=>decide (97≤b.toNat∧b.toNat≤122))=true
  ·rw [if_pos (ha.2 hz),hz]
   simp [h',bne]
  ·rw [if_neg (fun e=>hz (ha.1 e)),Bool.not_eq_true _ |>.mp hz]
   simp
 ·have h':¬ (1≤s.size∧s.size≤8):=by omega
  rw [if_neg (by simpa using h)]
  simp [h']
theorem cellOk_pure (c:Cat.Cell):impl_TrmCell_ok.f c.f0 c.f1 c.f2=some (Cat.cellOk c):=by
 unfold impl_TrmCell_ok.f Cat.cellOk
 simp only [in_pure,nameOk_pure,Option.bind_some,ByteArray.toList_eq]
 have e:∀ l:List UInt8,(l == [])=l.isEmpty:=by intro l;cases l <;> rfl
 by_cases h1:c.f0=1
 ·rw [if_pos h1,if_pos h1]
  by_cases h:(0:Int)≤c.f1∧c.f1≤99999
  ·rw [if_pos (by simpa using h),e];simp [h]
  ·rw [if_neg (by simpa using h)];simp only [decide_eq_false h,Bool.false_and]
 rw [if_neg h1,if_neg h1]
 by_cases h2:c.f0=2
 ·rw [if_pos h2,if_pos h2]
  by_cases h:(-9999:Int)≤c.f1∧c.f1≤9999
  ·rw [if_pos (by simpa using h),e];simp [h]
  ·rw [if_neg (by simpa using h)];simp only [decide_eq_false h,Bool.false_and]
 rw [if_neg h2,if_neg h2]
 by_cases h3:c.f0=3
 ·rw [if_pos h3,if_pos h3]
  by_cases h:(0:Int)≤c.f1∧c.f1≤3
  ·rw [if_pos (by simpa using h)];simp only [decide_eq_true h,Bool.true_and]
  ·rw [if_neg (by simpa using h)];simp only [decide_eq_false h,Bool.false_and]
 rw [if_neg h3,if_neg h3]
theorem cellOk_ar {c:Cat.Cell} (h:Cat.cellOk c=true):(if c.f0=3 then some c.f1 else some 0:Option Int)=some ((Cat.ar c:Nat):Int)∧Cat.ar c≤3:=by
 unfold Cat.ar
 by_cases h3:c.f0=3
 ·unfold Cat.cellOk at h
  rw [if_neg (by omega),if_neg (by omega),if_pos h3] at h
  have h:=(Bool.and_eq_true_iff.1 h).1
  have h:=of_decide_eq_true h
  rw [if_pos h3,if_pos h3]
  refine ⟨congrArg some ?_,?_⟩ <;> omega
 ·rw [if_neg h3,if_neg h3]
  exact ⟨rfl,by omega⟩
theorem size_l0:∀ (r a:List Cat.Cell) (m:Nat),(a++r).length≤1099511627776→Cat.okl (a++r)→m≤1+3 * a.length→
  Ev (fun k=>impl_size.l0 k (a++r) ((a.length+m:Nat):Int) ((a.length:Nat):Int)) (match Cat.skip m r with
   | some s=>(((a++r).length - s.length:Nat):Int)
   | none=>(((a++r).length+1:Nat):Int)):=by
 intro r
 induction r with
 | nil=>
  intro a m hl ho hm
  refine Ev.step (fun k=>rfl) ?_
  simp only [impl_size.l0]
  cases m with
  | zero=>
   rw [Cat.skip_zero]
   refine Ev.ifn (by omega) ?_
   exact Ev.pure (by simp)
  | succ n=>
   rw [Cat.skip_nil]
   refine Ev.ifp (by omega) (Ev.ifp (by simp) ?_)
   refine Ev.pure ?_
   have:(a++[]).length≤1099511627776:=hl
   rw [IntWalk.wrap64_in _ ⟨by omega,by omega⟩]
   rfl
 | cons c r ih=>
  intro a m hl ho hm
  refine Ev.step (fun k=>rfl) ?_
  simp only [impl_size.l0]
  cases m with
  | zero=>
   rw [Cat.skip_zero]
   refine Ev.ifn (by omega) ?_
   exact Ev.pure (by simp)
  | succ n=>
   have hc:Cat.cellOk c=true:=ho c (by simp)
   obtain ⟨h1,h2⟩:=cellOk_ar hc
   have hll:a.length+(r.length+1)≤1099511627776:=by simpa using hl
   have e1:((a.length:Nat):Int)<((a++c :: r).length:Int):=by simp;omega
   have er:rd_T43 (a++c :: r) ((a.length:Nat):Int)=c:=by simp [rd_T43,List.getD]
   refine Ev.ifp (by omega) (Ev.ifn (by omega) (Ev.ifp (by omega) (Ev.ifp e1 ?_)))
   rw [er]
   refine Ev.bindv (a:=((Cat.ar c:Nat):Int)) h1 ?_
   have e:(a++[c])++r=a++c :: r:=by simp
   have I:=ih (a++[c]) (n+Cat.ar c) (by rw [e];exact hl) (by rw [e];exact ho) (by simp;omega)
   rw [e] at I
   rw [Cat.skip_cons]
   have e2:wrap64 (((a.length+(n+1):Nat):Int)+((Cat.ar c:Nat):Int))=(((a++[c]).length+(n+Cat.ar c):Nat):Int):=by
    rw [IntWalk.wrap64_in _ ⟨by omega,by omega⟩];simp;omega
   have e3:wrap64 (((a.length:Nat):Int)+1)=(((a++[c]).length:Nat):Int):=by
    rw [IntWalk.wrap64_in _ ⟨by omega,by omega⟩];simp
   rw [e2,e3]
   exact I
theorem size_ev (l:List Cat.Cell) (hl:l.length≤1099511627776) (ho:Cat.okl l):Ev (fun k=>impl_size.f k l) ((Cat.sizeOf l:Nat):Int):=by
 have h:=size_l0 l [] 1 (by simpa using hl) (by simpa using ho) (by simp)
 unfold impl_size.f
 unfold Cat.sizeOf
 simp only [List.nil_append,List.length_nil,Nat.zero_add] at h
 cases hs:Cat.skip 1 l with
 | none=>rw [hs] at h;exact h
 | some s=>rw [hs] at h;exact h
theorem skip_len:∀ (l:List Cat.Cell) (n:Nat) (r:List Cat.Cell),Cat.skip n l=some r→r.length≤l.length:=by
 intro l n r h
 obtain ⟨p,e,_⟩:=Cat.skip_split l n r h
 rw [e];simp
theorem sizeOf_eq (l:List Cat.Cell):(Cat.sizeOf l=l.length)↔Cat.skip 1 l=some []:=by
 unfold Cat.sizeOf
 cases h:Cat.skip 1 l with
 | none=>simp
 | some s=>
  have:=skip_len l 1 s h
  simp only [Option.some.injEq]
  constructor
  ·intro e
   cases s with
   | nil=>rfl
   | cons c s=>
    cases l with
    | nil=>simp at this
    | cons d l=>simp at e this;omega
  ·rintro rfl;simp
set_option maxHeartbeats 4000000 in
set_option maxRecDepth 100000 in
theorem containsFunc_cells (g:Nat) (lb:Array Value) (p:Cat.Cell→Bool) (eg:∀ args w,(callFunc g args).run Tryz.prog w = .ok (.enter g args) w) (A0:Option Addr) (c0:Nat) (l0:List (S43)) (w:World)
  (hr0:Kd.C k43 w A0 l0.length l0) (hc0:l0.length≤c0) (hp:PredC g lb p w) :
  Calls Tryz.prog 26 #[.slice A0 l0.length c0,.func (.func g) #[] lb] w fun e w'=>e = .returned (.bool (l0.any p))∧Below w.heap.size w w':=by
 have H:=Aside0.mk (indexFunc_cells g lb p eg A0 c0 l0 w hr0 hc0 hp)
 have HA:=Aside0.mk (firstAt_any p l0 0)
 clear hr0 hp
 go_enter Tryz.func26,Tryz.ntmps26
 go_wp2_with (go_at_call 45;refine H.out.mono ?_;rintro e w' ⟨rfl,hb⟩)
 go_ret
 exact ⟨by rw [← HA.out];rfl,hb⟩
set_option maxHeartbeats 4000000 in
set_option maxRecDepth 100000 in
theorem trmOk_wrong (x:Cat.Cell) (w:World):Calls Tryz.prog 23 #[.agg #[.int .i64 x.f0,.int .i64 x.f1,.string x.f2]] w fun e w'=>e = .returned (.bool (!Cat.cellOk x))∧Below w.heap.size w w':=by
 have A:=Aside0.mk (cellOk_pure x)
 go_enter Tryz.func23,Tryz.ntmps23
 go_wp2_with (go_at_call 24;(with_reducible refine (impl_TrmCell_ok.calls x.f0 x.f1 x.f2 (Cat.cellOk x) _ A.out).mono ?_);rintro e w' ⟨rfl,hb⟩)
 go_ret
 exact ⟨rfl,below_step (below_alloc (Below.refl _ _) _) hb⟩
def impl_TrmOk.f (l0:List (S43)):Option (Bool):=some (Cat.isTerm l0)
set_option maxHeartbeats 4000000 in
set_option maxRecDepth 100000 in
theorem impl_TrmOk.calls (A0:Option Addr) (c0:Nat) (l0:List (S43)) (r:Bool) (w:World) (hr0:Kd.C k43 w A0 l0.length l0) (hc0:l0.length≤c0) (h:impl_TrmOk.f l0=some r) :
  Calls Tryz.prog 11 #[.slice A0 l0.length c0] w fun e w'=>e = .returned (.bool r)∧Below w.heap.size w w':=by
 obtain rfl:=Option.some.inj h
 clear h
 have eg:∀ args w,(callFunc 23 args).run Tryz.prog w = .ok (.enter 23 args) w:=by intro args w;first|rfl|kernel_rfl
 have HF:=Aside0.mk (containsFunc_cells 23 #[] (fun c=>!Cat.cellOk c) eg A0 c0 l0)
 have HC:=Aside0.mk hr0
 have HL:=Aside0.mk hc0
 have P1:=Aside0.mk (fun w=>fun (W:World) (x:Cat.Cell) (_:Below w.heap.size w W)=>trmOk_wrong x W:∀ w:World,PredC 23 #[] (fun c=>!Cat.cellOk c) w)
 clear hr0 hc0 eg
 by_cases h1:1≤l0.length∧l0.length≤40
 case neg=>
  have A:=Aside0.mk (show impl_in.f (l0.length:Int) 1 40=some false by rw [in_pure];exact congrArg some (decide_eq_false (by omega)))
  have R:=Aside0.mk (show Cat.isTerm l0=false by unfold Cat.isTerm;rw [decide_eq_false h1];rfl)
  clear h1
  go_enter Tryz.func11,Tryz.ntmps11
  go_wp2_with (go_at_call 25;(with_reducible refine (impl_in.calls (l0.length:Int) 1 40 false _ A.out).mono ?_);rintro e w' ⟨rfl,⟨nd,rfl⟩⟩)
  go_ret
  exact ⟨by rw [R.out];rfl,pw_below_drewN (Below.refl _ _) _⟩
 have A:=Aside0.mk (show impl_in.f (l0.length:Int) 1 40=some true by rw [in_pure];exact congrArg some (decide_eq_true (by omega)))
 by_cases h2:l0.all Cat.cellOk=true
 case neg=>
  have Q:=Aside0.mk (show (l0.any (fun c=>!Cat.cellOk c))=true by simpa [List.any_eq_true,List.all_eq_true] using h2)
  have R:=Aside0.mk (show Cat.isTerm l0=false by unfold Cat.isTerm;rw [Bool.eq_false_iff.2 h2,Bool.false_and,Bool.and_false])
  clear h1 h2
  go_enter Tryz.func11,Tryz.ntmps11
  go_wp2_with (first|(go_at_call 25;(with_reducible refine (impl_in.calls (l0.length:Int) 1 40 true _ A.out).mono ?_);rintro e w' ⟨rfl,⟨nd,rfl⟩⟩)|(go_at_call 26;(refine (HF.out _ (Kd.C_drewN HC.out _) HL.out (P1.out _)).mono ?_);rintro e w' ⟨rfl,hb⟩;rw [Q.out]))
  go_ret
  exact ⟨by rw [R.out];rfl,below_step (pw_below_drewN (Below.refl _ _) _) hb⟩
 have Q:=Aside0.mk (show (l0.any (fun c=>!Cat.cellOk c))=false by simpa [List.any_eq_false,List.all_eq_true] using h2)
 obtain ⟨k,hk⟩:=(size_ev l0 (by omega) (fun c hc=>List.all_eq_true.1 h2 c hc)).rounds
 have S:=Aside0.mk hk
 clear hk
 by_cases h3:Cat.sizeOf l0=l0.length
 case neg=>
  have R:=Aside0.mk (show Cat.isTerm l0=false by
   unfold Cat.isTerm
   rw [decide_eq_false (fun e=>h3 ((sizeOf_eq l0).2 e)),Bool.and_false,Bool.and_false])
  have e0:(((Cat.sizeOf l0:Nat):Int) == (l0.length:Int))=false:=beq_eq_false_iff_ne.2 (by omega)
  clear h1 h2 h3
  go_enter Tryz.func11,Tryz.ntmps11
  go_wp2_with (first|(go_at_call 25;(with_reducible refine (impl_in.calls (l0.length:Int) 1 40 true _ A.out).mono ?_);rintro e w' ⟨rfl,⟨nd,rfl⟩⟩)|(go_at_call 26;(refine (HF.out _ (Kd.C_drewN HC.out _) HL.out (P1.out _)).mono ?_);rintro e w' ⟨rfl,hb⟩;rw [Q.out];have HB:=Aside0.mk (below_step (pw_below_drewN (Below.refl w.heap.size w) _) hb);clear hb)|(go_at_call 27;(refine (impl_size.calls k A0 c0 l0 _ _ (Kd.C_below HC.out HB.out) HL.out S.out).mono ?_);rintro e w'' ⟨rfl,hb⟩))
  go_ret
  exact ⟨by rw [R.out];rfl,below_step HB.out hb⟩
 have R:=Aside0.mk (show Cat.isTerm l0=true by
  unfold Cat.isTerm
  rw [decide_eq_true ((sizeOf_eq l0).1 h3),decide_eq_true h1,h2];rfl)
 have e0:(((Cat.sizeOf l0:Nat):Int) == (l0.length:Int))=true:=beq_iff_eq.2 (by omega)
 clear h1 h2 h3
 go_enter Tryz.func11,Tryz.ntmps11
 go_wp2_with (first|(go_at_call 25;(with_reducible refine (impl_in.calls (l0.length:Int) 1 40 true _ A.out).mono ?_);rintro e w' ⟨rfl,⟨nd,rfl⟩⟩)|(go_at_call 26;(refine (HF.out _ (Kd.C_drewN HC.out _) HL.out (P1.out _)).mono ?_);rintro e w' ⟨rfl,hb⟩;rw [Q.out];have HB:=Aside0.mk (below_step (pw_below_drewN (Below.refl w.heap.size w) _) hb);clear hb)|(go_at_call 27;(refine (impl_size.calls k A0 c0 l0 _ _ (Kd.C_below HC.out HB.out) HL.out S.out).mono ?_);rintro e w'' ⟨rfl,hb⟩))
 go_ret
 exact ⟨by rw [R.out];rfl,below_step HB.out hb⟩

/-! ### impl_args: function 41 -/
def impl_args.l0:Nat→List (List (S43))→List (S43)→Int→Int→Option ((List (List (S43))))
 | 0,_,_,_,_=>none
 | k+1,x3,x4,x11,x12=>if x12<x11 then ((impl_size.f k x4).bind fun t306=>(if 0≤t306 then (if t306≤(x4.length:Int) then (if x3.length<5864062014805 then (impl_args.l0 k (x3++[(x4.take (t306:Int).toNat)]) (x4.drop (t306:Int).toNat) x11 (wrap64 (x12+1))) else (none)) else (none)) else (none))) else (some x3)
def impl_args.f (k:Nat) (l0:List (S43)):Option ((List (List (S43)))):=if 1≤(l0.length:Int) then (if 0<(l0.length:Int) then ((impl_TrmCell_arity.f ((rd_T43 l0 0).f0) ((rd_T43 l0 0).f1) ((rd_T43 l0 0).f2)).bind fun t305=>(impl_args.l0 k ([]:List (List (S43))) (l0.drop 1) t305 0)) else (none)) else (none)
set_option maxHeartbeats 8000000 in
set_option maxRecDepth 100000 in
theorem impl_args.calls (k:Nat) (P0_:Nat→Prop) (A0:Option Addr) (c0:Nat) (l0:List (S43)) (r:List (List (S43))) (w:World) (hs0:Kd.V k43 43 w w.heap.size (fun k_=>P0_ k_) (.slice A0 l0.length c0) l0) (h:impl_args.f k l0=some r) :
  Calls Tryz.prog 41 #[.slice A0 l0.length c0] w fun e w'=>∃ v0_:Value,e = .returned (v0_)∧Kd.N (Kd.slice 43 k43) 23 w' w.heap.size (fun k_=>(P0_ k_∨w.heap.size≤k_)) v0_ r∧Below w.heap.size w w':=by
 have hu43:=Tryz.underlying43
 have HO0:=Aside0.mk (show Kd.V k43 43 w w.heap.size (fun k_=>(P0_ k_∨w.heap.size≤k_)) (.slice A0 l0.length c0) l0 from Kd.V_mono hs0 (fun k_ hk=>.inl hk))
 have HB:=Aside0.mk (Below.refl w.heap.size w)
 have H:(if 1≤(l0.length:Int) then (if 0<(l0.length:Int) then ((impl_TrmCell_arity.f ((rd_T43 l0 0).f0) ((rd_T43 l0 0).f1) ((rd_T43 l0 0).f2)).bind fun t305=>(impl_args.l0 k ([]:List (List (S43))) (l0.drop 1) t305 0)) else (none)) else (none))=some r:=h
 clear h
 by_cases c2:1≤(l0.length:Int)
 ·rw [if_pos c2] at H
  have c2b0:=eq_true c2
  have c2b1:decide (1≤(l0.length:Int))=true:=decide_eq_true c2
  clear c2
  obtain ⟨y299,hy299⟩:∃ y_:List (S43),y_=(l0.drop 1):=⟨_,rfl⟩
  replace H:(if 0<(l0.length:Int) then ((impl_TrmCell_arity.f ((rd_T43 l0 0).f0) ((rd_T43 l0 0).f1) ((rd_T43 l0 0).f2)).bind fun t305=>(impl_args.l0 k ([]:List (List (S43))) y299 t305 0)) else (none))=some r:=by first|(rw [hy299];exact H)|exact H
  have Ny299:=Aside0.mk hy299
  clear hy299
  by_cases c3:0<(l0.length:Int)
  ·rw [if_pos c3] at H
   have c3b0:decide (0<(l0.length:Int))=true:=decide_eq_true c3
   have c3b1:decide (0<l0.length)=true:=decide_eq_true (by omega)
   clear c3
   replace H:=Option.bind_eq_some_iff.mp H
   obtain ⟨t305,A40,H⟩:=H
   try dsimp only at H
   have A4:=Aside0.mk A40
   clear A40
   have H':=Aside0.mk H
   clear H
   have q5:(1:Int)≤((l0.length:Int):Int):=of_decide_eq_true qz6
   obtain ⟨i05,hi05,_,hsz5,_⟩:=info_parts info43
   have hroom5:l0.length≤c0:=(Kd.V_reads' HO0.out).2.1
   have hC5:Kd.F k43 _ _ A0 l0.length l0:=(Kd.V_at (base:=w.heap.size) HO0.out).2.2
   have hcut5:=cut_from (P:=Tryz.prog) 23 43 .i64 Tryz.underlying23 hi05 3 hsz5 A0 l0.length c0 1 (by omega) q5
   have hr5:=Kd.F_cut (m:=(1:Int).toNat) (c:=c0) hC5 (by omega) hroom5
   obtain ⟨A5,hA5⟩:∃ A1,A1=(if c0=(1:Int).toNat then A0 else (A0:Option Addr).map (·.add ((1:Int).toNat * 3))):=⟨_,rfl⟩
   obtain ⟨c5,hc5⟩:∃ c1,c1=c0 - (1:Int).toNat:=⟨_,rfl⟩
   have hy5:y299.length=l0.length - (1:Int).toNat:=(by rw [Ny299.out,List.length_drop] <;> omega)
   rw [show (l0).drop (1:Int).toNat=y299 from Ny299.out.symm] at hr5
   replace hr5:Kd.F k43 _ _ A5 y299.length y299:=(by rw [hA5];exact hr5)
   rw [← hy5,← hA5,← hc5] at hcut5
   have HO303:=Aside0.mk (show Kd.V k43 43 _ w.heap.size _ (.slice A5 y299.length c5) y299 from Kd.V_mk (by rw [hy5,hc5];exact Nat.sub_le_sub_right hroom5 _) hr5)
   have HC303:=Aside0.mk (show y299.length≤c5 from by rw [hy5,hc5];exact Nat.sub_le_sub_right hroom5 _)
   clear hr5 hC5 hroom5 hi05 hsz5 hc5
   have KY5:=Aside0.mk hy5
   have KA5:=Aside0.mk hA5
   clear hy5 hA5
   replace q5:=eq_true q5
   have p304:0≤(0:Int):=(by omega)
   have q304:0<(l0.length:Int):=of_decide_eq_true qz6
   obtain ⟨ad304,e304,hx304_0,hx304_1,hx304_2⟩:=at_T43 (Kd.V_reads' HO0.out).2.2 0 p304 q304
   cases e304
   have qi304:(0<l0.length)=True:=eq_true (by omega)
   (try rw [show ((0:Int)).toNat=0 from rfl] at hx304_0)
   (try rw [show 0 * 3=0 from rfl] at hx304_0)
   (try rw [Addr.add_zero'] at hx304_0)
   (try rw [show ((0:Int)).toNat=0 from rfl] at hx304_1)
   (try rw [show 0 * 3=0 from rfl] at hx304_1)
   (try rw [Addr.add_zero'] at hx304_1)
   (try rw [show ((0:Int)).toNat=0 from rfl] at hx304_2)
   (try rw [show 0 * 3=0 from rfl] at hx304_2)
   (try rw [Addr.add_zero'] at hx304_2)
   replace p304:=eq_true p304
   replace q304:=eq_true q304
   go_enter Tryz.func41,Tryz.ntmps41
   go_wp2_with (first|((with_reducible refine gate_callee (f:=42) rfl ?_);refine goesL_ (some 11) rfl rfl Tryz.func42 (by kernel_rfl) rfl #[.agg #[.int .i64 ((rd_T43 l0 0).f0),.int .i64 ((rd_T43 l0 0).f1),.string ((rd_T43 l0 0).f2)]] rfl qz4 ?_;(with_reducible refine (impl_TrmCell_arity.calls ((rd_T43 l0 0).f0) ((rd_T43 l0 0).f1) ((rd_T43 l0 0).f2) t305 _ A4.out).mono ?_);rintro e w6 ⟨rfl,hb⟩;refine ⟨_,rfl,?_⟩;have n0_:=Aside0.mk (Kd.V_below (by (with_reducible repeat (first|apply Kd.V_alloc|apply Kd.V_drewN|apply Kd.V_drew));exact HO0.out) hb);have n1_:=Aside0.mk (Kd.V_below (by (with_reducible repeat (first|apply Kd.V_alloc|apply Kd.V_drewN|apply Kd.V_drew));exact HO303.out) hb);have n2_:=Aside0.mk (below_step qz5 hb);clear HO0 HO303 HB;have HO0:=n0_;have HO303:=n1_;have HB:=n2_;clear n0_ n1_ n2_;(try clear hb);(try clear hb2);(try clear hk);(try clear hi)))
   go_loopg [3,4,12] k (fun kq v3 v4 v12 w'=>∃ (x3_1:List (List (S43))) (x4_1:List (S43)) (x12_1:Int),v12 = .int .i64 x12_1∧Aside0 (impl_args.l0 kq x3_1 x4_1 t305 x12_1=some r)∧Aside0 (kq≤k)∧Aside0 (Kd.N (Kd.slice 43 k43) 23 w' w.heap.size (fun k_=>(P0_ k_∨w.heap.size≤k_)) v3 x3_1)∧Aside0 (Kd.V k43 43 w' w.heap.size (fun k_=>(P0_ k_∨w.heap.size≤k_)∧some k_≠(v3:Value).ownBlock) v4 x4_1)∧Aside0 (Below w.heap.size w w'))
   case atStart=>exact ⟨(([]:List (List (S43)))),(y299),(0),qz9,H',⟨Nat.le_refl _⟩,⟨by first|exact Kd.S_nil _ _ _ _ _|exact Kd.N_nil _ _ _ _ _|exact Kd.V_nil _ _ _ _ _|exact Kd.Q_nil _ _ _ _ _|exact Kd.R_nil _ _ _ _ _⟩,⟨by (with_reducible repeat (first|apply Kd.V_alloc|apply Kd.V_drewN|apply Kd.V_drew));exact Kd.V_mono HO303.out (fun _ hk=>⟨hk,(by simp [Value.ownBlock])⟩)⟩,⟨qz7⟩⟩
   case round=>
    clear H'
    try clear c1
    try clear c2
    try clear c2b0
    try clear c2b1
    try clear p2
    try clear c3
    try clear c3b0
    try clear c3b1
    try clear p3
    try clear q3
    try clear hx3
    try clear qi3
    try clear c4
    try clear c5
    try clear q5
    try clear hx304_0
    try clear hx304_1
    try clear hx304_2
    try clear p304
    try clear q304
    try clear q5
    obtain ⟨x3_1,x4_1,x12_1,rfl,HA,HK1,HO_3,HO_4,HB⟩:=hrel
    cases gk with
    | zero=>exact absurd HA.out (by simp [impl_args.l0])
    | succ k1=>
     have H:=HA.out
     clear HA
     simp only [impl_args.l0] at H
     by_cases c7:x12_1<t305
     ·rw [if_pos c7] at H
      have c7b0:decide (x12_1<t305)=true:=decide_eq_true c7
      clear c7
      replace H:=Option.bind_eq_some_iff.mp H
      obtain ⟨t306,A80,H⟩:=H
      try dsimp only at H
      have A8:=Aside0.mk A80
      clear A80
      by_cases c9:0≤t306
      ·rw [if_pos c9] at H
       have c9b0:=eq_true c9
       have c9b1:decide (0≤t306)=true:=decide_eq_true c9
       clear c9
       by_cases c10:t306≤(x4_1.length:Int)
       ·rw [if_pos c10] at H
        have c10b0:=eq_true c10
        have c10b1:decide (t306≤(x4_1.length:Int))=true:=decide_eq_true c10
        clear c10
        obtain ⟨y307,hy307⟩:∃ y_:List (S43),y_=(x4_1.take (t306:Int).toNat):=⟨_,rfl⟩
        replace H:(if x3_1.length<5864062014805 then (impl_args.l0 k1 (x3_1++[y307]) (x4_1.drop (t306:Int).toNat) t305 (wrap64 (x12_1+1))) else (none))=some r:=by first|(rw [hy307];exact H)|exact H
        have Ny307:=Aside0.mk hy307
        clear hy307
        by_cases c11:x3_1.length<5864062014805
        ·rw [if_pos c11] at H
         have LMc11:=Aside0.mk c11
         clear c11
         obtain ⟨y312,hy312⟩:∃ y_:List (List (S43)),y_=(x3_1++[y307]):=⟨_,rfl⟩
         replace H:(impl_args.l0 k1 y312 (x4_1.drop (t306:Int).toNat) t305 (wrap64 (x12_1+1)))=some r:=by first|(rw [hy312];exact H)|exact H
         have Ny312:=Aside0.mk hy312
         clear hy312
         have c12b0:=eq_true (of_decide_eq_true qz6:0≤t306)
         have c13b0:=eq_true (of_decide_eq_true qz6:t306≤(x4_1.length:Int))
         obtain ⟨y315,hy315⟩:∃ y_:List (S43),y_=(x4_1.drop (t306:Int).toNat):=⟨_,rfl⟩
         replace H:(impl_args.l0 k1 y312 y315 t305 (wrap64 (x12_1+1)))=some r:=by first|(rw [hy315];exact H)|exact H
         have Ny315:=Aside0.mk hy315
         clear hy315
         have H':=Aside0.mk H
         clear H
         obtain ⟨Ao14,co14,eo14⟩:=Kd.V_slice HO_4.out
         subst eo14
         go_wp2_with (first|((with_reducible refine gate_callee (f:=27) rfl ?_);refine goesL_ (some 15) rfl rfl Tryz.func27 (by kernel_rfl) rfl #[.slice Ao14 x4_1.length co14] rfl qz4 ?_;(with_reducible refine (impl_size.calls k1 _ _ x4_1 t306 _ ?side1 ?side2 A8.out).mono ?_);(case side1=>repeat (first|exact (Kd.V_reads' HO_4.out).2.2|(with_reducible refine Kd.C_alloc ?_ _)|(with_reducible refine Kd.C_drewN ?_ _)|(with_reducible refine Kd.C_drew ?_)));(case side2=>exact (Kd.V_reads' HO_4.out).2.1);rintro e w15 ⟨rfl,hb⟩;refine ⟨_,rfl,?_⟩;have n0_:=Aside0.mk (Kd.N_below qz70 hb);have n1_:=Aside0.mk (Kd.V_below (by (with_reducible repeat (first|apply Kd.V_alloc|apply Kd.V_drewN|apply Kd.V_drew));exact HO_4.out) hb);have n2_:=Aside0.mk (below_step qz5 hb);clear HO_3 HO_4 HB;have HO_3:=n0_;have HO_4:=n1_;have HB:=n2_;clear n0_ n1_ n2_;(try clear hb);(try clear hb2);(try clear hk);(try clear hi);have q16:(t306:Int)≤((x4_1.length:Int):Int):=of_decide_eq_true qz6;obtain ⟨i016,hi016,_,hsz16,_⟩:=info_parts info43;have hroom16:x4_1.length≤co14:=(Kd.V_reads' HO_4.out).2.1;have hC16:Kd.F k43 _ _ Ao14 x4_1.length x4_1:=(Kd.V_at (base:=w.heap.size) HO_4.out).2.2;have hcut16:=cut_to (P:=Tryz.prog) 23 43 .i64 Tryz.underlying23 hi016 Ao14 x4_1.length co14 t306 (of_decide_eq_true qz6) q16 hroom16;have hr16:=Kd.F_take (m:=(t306:Int).toNat) hC16 (by omega);have hy16:y307.length=(t306:Int).toNat:=(by rw [Ny307.out,List.length_take];omega);rw [← Ny307.out] at hr16;rw [← hy16] at hcut16;have HO311:=Aside0.mk (show Kd.V k43 43 _ w.heap.size _ (.slice Ao14 y307.length co14) y307 from Kd.V_mk (by omega) hr16);have HC311:=Aside0.mk (show y307.length≤co14 from by omega);clear hr16 hC16 hroom16 hi016 hsz16;have KY16:=Aside0.mk hy16;clear hy16;replace q16:=eq_true q16)|((with_reducible refine gate_builtin (b:=.append) (xs:=#[.tmp 16,.tmp 20]) rfl ?_);at_builtin;refine Kd.N_append (Kd.slice 43 k43) (w0:=w) w.heap.size rfl (.tmp 16) (.tmp 20) 73 23 (.slice none 0 0) 24 rfl Tryz.underlying73 info23 rfl (by decide) (by omega) u3 x3_1 y307 [.slice Ao14 y307.length co14] (fun k_=>(P0_ k_∨w.heap.size≤k_)) (fun k_=>((fun k_=>(P0_ k_∨w.heap.size≤k_))) k_∧some k_≠(u3:Value).ownBlock) rfl rfl ?aP (fun _ hk=>hk) ?aF ?aO ?aB ?aS ?aL ?_;(case aP=>exact (Kd.FK_slice_mk (Kd.V_reads' (Kd.V_mono (ok':=(fun k_=>((fun k_=>(P0_ k_∨w.heap.size≤k_))) k_∧some k_≠(u3:Value).ownBlock)) (HO311.out) (fun k_ hk=>⟨hk.1,hk.2⟩))).2.1 (Kd.V_F (Kd.V_mono (ok':=(fun k_=>((fun k_=>(P0_ k_∨w.heap.size≤k_))) k_∧some k_≠(u3:Value).ownBlock)) (HO311.out) (fun k_ hk=>⟨hk.1,hk.2⟩)))));(case aB=>exact qz5);(case aF=>exact (fun k_ hk=>(.inr (Nat.le_trans (below_size qz5) hk))));(case aO=>exact qz70);(case aS=>exact (below_size qz5));(case aL=>have:=LMc11.out;omega);intro v313 w17 ho hb hg hat;rw [← Ny312.out] at ho;have n0_:=Aside0.mk (Kd.V_afterv (ok:=(fun k_=>(P0_ k_∨w.heap.size≤k_))) (by (with_reducible repeat (first|apply Kd.V_alloc|apply Kd.V_drewN|apply Kd.V_drew));exact HO_4.out) hg hat);have n1_:=Aside0.mk (Kd.V_afterv (ok:=(fun k_=>(P0_ k_∨w.heap.size≤k_))) (by (with_reducible repeat (first|apply Kd.V_alloc|apply Kd.V_drewN|apply Kd.V_drew));exact HO311.out) hg hat);have n2_:=Aside0.mk (hb);have n3_:=Aside0.mk (ho);clear HO_4 HO311 HB HO_3;have HO_4:=n0_;have HO311:=n1_;have HB:=n2_;have HO314:=n3_;clear n0_ n1_ n2_ n3_ ho hb hg hat;have q18:(t306:Int)≤((x4_1.length:Int):Int):=of_decide_eq_true qz6;obtain ⟨i018,hi018,_,hsz18,_⟩:=info_parts info43;have hroom18:x4_1.length≤co14:=(Kd.V_reads' HO_4.out).2.1;have hC18:Kd.F k43 _ _ Ao14 x4_1.length x4_1:=(Kd.V_at (base:=w.heap.size) HO_4.out).2.2;have q018:(0:Int)≤(t306:Int):=of_decide_eq_true qz6;have hcut18:=cut_from (P:=Tryz.prog) 23 43 .i64 Tryz.underlying23 hi018 3 hsz18 Ao14 x4_1.length co14 t306 q018 q18;have hr18:=Kd.F_cut (m:=(t306:Int).toNat) (c:=co14) hC18 (by omega) hroom18;obtain ⟨A18,hA18⟩:∃ A1,A1=(if co14=(t306:Int).toNat then Ao14 else (Ao14:Option Addr).map (·.add ((t306:Int).toNat * 3))):=⟨_,rfl⟩;obtain ⟨c18,hc18⟩:∃ c1,c1=co14 - (t306:Int).toNat:=⟨_,rfl⟩;have hy18:y315.length=x4_1.length - (t306:Int).toNat:=(by rw [Ny315.out,List.length_drop] <;> omega);rw [show (x4_1).drop (t306:Int).toNat=y315 from Ny315.out.symm] at hr18;replace hr18:Kd.F k43 _ _ A18 y315.length y315:=(by rw [hA18];exact hr18);rw [← hy18,← hA18,← hc18] at hcut18;have HO319:=Aside0.mk (show Kd.V k43 43 _ w.heap.size _ (.slice A18 y315.length c18) y315 from Kd.V_mk (by rw [hy18,hc18];exact Nat.sub_le_sub_right hroom18 _) hr18);have HC319:=Aside0.mk (show y315.length≤c18 from by rw [hy18,hc18];exact Nat.sub_le_sub_right hroom18 _);clear hr18 hC18 hroom18 hi018 hsz18 hc18;have KY18:=Aside0.mk hy18;have KA18:=Aside0.mk hA18;clear hy18 hA18;replace q18:=eq_true q18))
         go_roundg k1
         case measure=>have:=HK1.out;omega
         case rel=>exact ⟨(y312),(y315),(wrap64 (x12_1+1)),qz9,H',⟨by have:=HK1.out;omega⟩,⟨by (with_reducible repeat (first|apply Kd.N_alloc|apply Kd.N_drewN|apply Kd.N_drew));exact HO314.out⟩,⟨by (with_reducible repeat (first|apply Kd.V_alloc|apply Kd.V_drewN|apply Kd.V_drew));exact HO319.out⟩,⟨qz7⟩⟩
        ·rw [if_neg c11] at H
         exact absurd H (by simp)
       ·rw [if_neg c10] at H
        exact absurd H (by simp)
      ·rw [if_neg c9] at H
       exact absurd H (by simp)
     ·rw [if_neg c7] at H
      have c7b0:decide (x12_1<t305)=false:=decide_eq_false c7
      clear c7
      obtain rfl:=Option.some.inj H
      go_wp2
      go_ret
      exact ⟨_,qz8,qz70,qz7⟩
  ·rw [if_neg c3] at H
   exact absurd H (by simp)
 ·rw [if_neg c2] at H
  exact absurd H (by simp)

end Go.Proofs.YtibencknfheplaaGreatDoor.P
