/- Contracts of functions of the program: each as a Lean function, and that its call does what that says; printed by cprint.py (this session) over print.py of the kit. Conditions: the hypotheses of each theorem. -/
import Derived.Test.YtlaicnoikeieeaaDoorVZ
import Derived.Test.YtlaicnoikeieeaaDoorP0
import Derived.Test.YtlaicnoikeieeaaDoorP2
namespace Go.Proofs.YtlaicnoikeieeaaDoor.P
open Go.RowKit Go.Proofs.YtlaicnoikeieeaaDoorW.PrintWords Go.Proofs.YtlaicnoikeieeaaDoorW.PrintLast Go.Proofs.YtlaicnoikeieeaaDoorW.PrintMore
attribute [local go_sem] max2_int min2_int max_two min_two max_three min_three max_four min_four   -- for this text's walks alone
set_option linter.unusedVariables false
set_option linter.unusedSimpArgs false

/-! ### impl_TrmOk: function 42 -/
/-- which place is the first of which p holds; -1, if none is -/
def firstAt (p:Cat.Cell→Bool):List Cat.Cell→Nat→Int
 | [],_=>-1
 | c :: l,i=>if p c then (i:Int) else firstAt p l (i+1)
theorem firstAt_any (p:Cat.Cell→Bool):∀ (l:List Cat.Cell) (i:Nat),decide (firstAt p l i≥0)=l.any p
 | [],i=>by simp [firstAt]
 | c :: l,i=>by
  unfold firstAt
  by_cases h:p c=true
  ·simp [h]
  ·have h':p c=false:=by simpa using h
   simp only [h',List.any_cons,Bool.false_or]
   exact firstAt_any p l (i+1)
theorem firstAt_drop (p:Cat.Cell→Bool) (l:List Cat.Cell) (i:Nat) (h:i<l.length):firstAt p (l.drop i) i=if p (rd_T46 l (i:Int)) then (i:Int) else firstAt p (l.drop (i+1)) (i+1):=by
 rw [List.drop_eq_getElem_cons h]
 have:rd_T46 l (i:Int)=l[i]:=by simp [rd_T46,List.getD,h]
 rw [this]
 rfl
/-- what is asked of a predicate on places: it answers p, and what lay before it lies as it lay -/
def PredC (g:Nat) (lb:Array Value) (p:Cat.Cell→Bool) (w:World):Prop:=
 ∀ (W:World) (x:Cat.Cell),Below w.heap.size w W→Calls Tryd.prog g (#[.agg #[.int .i64 x.f0,.int .i64 x.f1,.string x.f2]]++lb) W fun e w'=>e = .returned (.bool (p x))∧Below W.heap.size W w'
set_option maxHeartbeats 4000000 in
set_option maxRecDepth 100000 in
theorem indexFunc_cells (g:Nat) (lb:Array Value) (p:Cat.Cell→Bool) (eg:∀ args w,(callFunc g args).run Tryd.prog w = .ok (.enter g args) w) (A0:Option Addr) (c0:Nat) (l0:List (S46)) (w:World)
  (hr0:Kd.C k46 w A0 l0.length l0) (hc0:l0.length≤c0) (hp:PredC g lb p w) :
  Calls Tryd.prog 98 #[.slice A0 l0.length c0,.func (.func g) #[] lb] w fun e w'=>e = .returned (.int .i64 (firstAt p l0 0))∧Below w.heap.size w w':=by
 have HR:=Aside0.mk hr0
 have HP:=Aside0.mk hp
 have hm:l0.length≤9223372036854775807:=hr0.2.1
 clear hr0 hp
 go_enter Tryd.func98,Tryd.ntmps98
 go_wp2
 go_loopg [5,8] l0.length (fun gg _ s8 wr=>∃ kk:Nat,kk≤l0.length∧l0.length - kk≤gg∧s8 = .int .i64 kk∧Aside0 (Below w.heap.size w wr)∧Aside0 (firstAt p l0 0=firstAt p (l0.drop kk) kk))
 case atStart=>exact ⟨0,Nat.zero_le _,by omega,rfl,⟨Below.refl _ w⟩,⟨rfl⟩⟩
 case round=>
  obtain ⟨kk,hkk,hg,rfl,BW,A⟩:=hrel
  by_cases hlt:kk<l0.length
  ·have hltz:(kk:Int)<(l0.length:Int):=by omega
   have hfd:=Aside0.mk (firstAt_drop p l0 kk hlt)
   obtain ⟨ad,e1,hx0,hx1,hx2⟩:=at_T46 HR.out (kk:Int) (by omega) hltz
   cases e1
   rw [Int.toNat_natCast] at hx0 hx1 hx2
   replace hx0:=(BW.out.cell (World.block_lt_of_cell? w _ hx0)).trans hx0
   replace hx1:=(BW.out.cell (World.block_lt_of_cell? w _ hx1)).trans hx1
   replace hx2:=(BW.out.cell (World.block_lt_of_cell? w _ hx2)).trans hx2
   have hcall:=HP.out wr (rd_T46 l0 (kk:Int)) BW.out
   generalize hy:rd_T46 l0 (kk:Int)=y at hx0 hx1 hx2 hcall
   have B:=Aside0.mk hy
   clear hy
   cases hq:p y with
   | true=>
    rw [hq] at hcall
    have Q:=Aside0.mk hq
    clear hq
    go_wp2_with (go_at_fn g;refine hcall.mono ?_;rintro e w' ⟨rfl,hb'⟩)
    go_ret
    refine ⟨?_,below_step BW.out hb'⟩
    rw [A.out,hfd.out,B.out,if_pos Q.out]
    rfl
   | false=>
    rw [hq] at hcall
    have Q:=Aside0.mk hq
    clear hq
    go_wp2_with (go_at_fn g;refine hcall.mono ?_;rintro e w' ⟨rfl,hb'⟩)
    go_roundg (l0.length - (kk+1))
    case measure=>omega
    case rel=>
     refine ⟨kk+1,by omega,by omega,by go_num,⟨below_step BW.out hb'⟩,⟨?_⟩⟩
     rw [A.out,hfd.out,B.out,if_neg (by rw [Q.out];simp)]
  ·have hltz:¬ (kk:Int)<(l0.length:Int):=by omega
   have e:kk=l0.length:=by omega
   have hE:=Aside0.mk e
   clear e
   go_wp2
   go_ret
   refine ⟨?_,BW.out⟩
   rw [A.out,hE.out,List.drop_length]
   rfl
theorem in_pure (a b c:Int):impl_in.f a b c=some (decide (b≤a∧a≤c)):=by
 unfold impl_in.f
 by_cases h:a≥b
 ·rw [if_pos h]
  have:b≤a:=h
  simp [this]
 ·rw [if_neg h]
  have:¬ b≤a:=h
  simp [this]
theorem dropWhile_nil {α:Type} (p:α→Bool):∀ l:List α,l.dropWhile p=[]↔∀ x ∈ l,p x=true
 | []=>by simp
 | a :: l=>by
  rw [List.dropWhile_cons]
  by_cases h:p a=true
  ·rw [if_pos h,dropWhile_nil p l];simp [h]
  ·rw [if_neg h];simp [h]
theorem dropWhile_head {α:Type} (p:α→Bool):∀ (l:List α) (h:l.dropWhile p≠[]),p ((l.dropWhile p).head h)=false
 | [],h=>absurd rfl h
 | a :: l,h=>by
  by_cases ha:p a=true
  ·have e:(a :: l).dropWhile p=l.dropWhile p:=by rw [List.dropWhile_cons,if_pos ha]
   have:=dropWhile_head p l (by rw [← e];exact h)
   simpa only [e] using this
  ·have e:(a :: l).dropWhile p=a :: l:=by rw [List.dropWhile_cons,if_neg ha]
   simp only [e,List.head_cons]
   simpa using ha
set_option maxRecDepth 100000 in
theorem trim_az (l:List UInt8):(Lib.trimS l [97,98,99,100,101,102,103,104,105,106,107,108,109,110,111,112,113,114,115,116,117,118,119,120,121,122]=[])↔l.all (fun b=>decide (97≤b.toNat∧b.toNat≤122))=true:=by
 have hc:∀ b:UInt8,([97,98,99,100,101,102,103,104,105,106,107,108,109,110,111,112,113,114,115,116,117,118,119,120,121,122]:List UInt8).contains b=decide (97≤b.toNat∧b.toNat≤122):=by
  intro b
  have:∀ n:Fin 256,([97,98,99,100,101,102,103,104,105,106,107,108,109,110,111,112,113,114,115,116,117,118,119,120,121,122]:List UInt8).contains (UInt8.ofNat n.val)=decide (97≤(UInt8.ofNat n.val).toNat∧(UInt8.ofNat n.val).toNat≤122):=by decide
  have h2:=this ⟨b.toNat,b.toNat_lt⟩
  simpa using h2
 unfold Lib.trimS Lib.trimLeftS Lib.trimRightS
 simp only [hc]
 rw [dropWhile_nil]
 rw [List.all_eq_true]
 constructor
 ·intro h x hx
  by_cases hd:(l.reverse.dropWhile fun b=>decide (97≤b.toNat∧b.toNat≤122))=[]
  ·rw [dropWhile_nil] at hd
   exact hd x (by simpa using hx)
  ·exfalso
   have h1:=dropWhile_head (fun b:UInt8=>decide (97≤b.toNat∧b.toNat≤122)) l.reverse hd
   have h2:=h ((l.reverse.dropWhile fun b=>decide (97≤b.toNat∧b.toNat≤122)).head hd) (by simp)
   rw [h1] at h2
   cases h2
 ·intro h x hx
  have:x ∈ l.reverse.dropWhile (fun b:UInt8=>decide (97≤b.toNat∧b.toNat≤122)):=by simpa using hx
  exact h x (by simpa using (List.dropWhile_sublist _).mem this)
theorem nameOk_pure (s:ByteArray):impl_nameOk.f s=some (Cat.nameOk s):=by
 have hs:s.data.toList.length=s.size:=by rw [Array.length_toList];rfl
 unfold impl_nameOk.f
 rw [in_pure]
 simp only [Option.bind_some]
 unfold Cat.nameOk Cat.nameOkL
 rw [hs]
 by_cases h:(1:Int)≤(s.size:Int)∧(s.size:Int)≤8
 ·have h':1≤s.size∧s.size≤8:=by omega
  rw [if_pos (by simpa using h)]
  unfold strings_Trim.f
  rw [if_pos (by omega),if_pos (by decide),if_pos (by decide)]
  simp only [Option.bind_some,ByteArray.toList_eq]
  have ha:=trim_az s.data.toList
  by_cases hz:s.data.toList.all (fun b=>decide (97≤b.toNat∧b.toNat≤122))=true
  ·rw [if_pos (ha.2 hz),hz]
   simp [h',bne]
  ·rw [if_neg (fun e=>hz (ha.1 e)),Bool.not_eq_true _ |>.mp hz]
   simp
 ·have h':¬ (1≤s.size∧s.size≤8):=by omega
  rw [if_neg (by simpa using h)]
  simp [h']
theorem cellOk_pure (c:Cat.Cell):impl_TrmCell_ok.f c.f0 c.f1 c.f2=some (Cat.cellOk c):=by
 unfold impl_TrmCell_ok.f Cat.cellOk
 simp only [in_pure,nameOk_pure,Option.bind_some,ByteArray.toList_eq]
 have e:∀ l:List UInt8,(l == [])=l.isEmpty:=by intro l;cases l <;> rfl
 by_cases h1:c.f0=1
 ·rw [if_pos h1,if_pos h1]
  by_cases h:(0:Int)≤c.f1∧c.f1≤99999
  ·rw [if_pos (by simpa using h),e];simp [h]
  ·rw [if_neg (by simpa using h)];simp only [decide_eq_false h,Bool.false_and]
 rw [if_neg h1,if_neg h1]
 by_cases h2:c.f0=2
 ·rw [if_pos h2,if_pos h2]
  by_cases h:(-9999:Int)≤c.f1∧c.f1≤9999
  ·rw [if_pos (by simpa using h),e];simp [h]
  ·rw [if_neg (by simpa using h)];simp only [decide_eq_false h,Bool.false_and]
 rw [if_neg h2,if_neg h2]
 by_cases h3:c.f0=3
 ·rw [if_pos h3,if_pos h3]
  by_cases h:(0:Int)≤c.f1∧c.f1≤3
  ·rw [if_pos (by simpa using h)];simp only [decide_eq_true h,Bool.true_and]
  ·rw [if_neg (by simpa using h)];simp only [decide_eq_false h,Bool.false_and]
 rw [if_neg h3,if_neg h3]
theorem cellOk_ar {c:Cat.Cell} (h:Cat.cellOk c=true):(if c.f0=3 then some c.f1 else some 0:Option Int)=some ((Cat.ar c:Nat):Int)∧Cat.ar c≤3:=by
 unfold Cat.ar
 by_cases h3:c.f0=3
 ·unfold Cat.cellOk at h
  rw [if_neg (by omega),if_neg (by omega),if_pos h3] at h
  have h:=(Bool.and_eq_true_iff.1 h).1
  have h:=of_decide_eq_true h
  rw [if_pos h3,if_pos h3]
  refine ⟨congrArg some ?_,?_⟩ <;> omega
 ·rw [if_neg h3,if_neg h3]
  exact ⟨rfl,by omega⟩
theorem size_l0:∀ (r a:List Cat.Cell) (m:Nat),(a++r).length≤1099511627776→Cat.okl (a++r)→m≤1+3 * a.length→
  Ev (fun k=>impl_size.l0 k (a++r) ((a.length+m:Nat):Int) ((a.length:Nat):Int)) (match Cat.skip m r with
   | some s=>(((a++r).length - s.length:Nat):Int)
   | none=>(((a++r).length+1:Nat):Int)):=by
 intro r
 induction r with
 | nil=>
  intro a m hl ho hm
  refine Ev.step (fun k=>rfl) ?_
  simp only [impl_size.l0]
  cases m with
  | zero=>
   rw [Cat.skip_zero]
   refine Ev.ifn (by omega) ?_
   exact Ev.pure (by simp)
  | succ n=>
   rw [Cat.skip_nil]
   refine Ev.ifp (by omega) (Ev.ifp (by simp) ?_)
   refine Ev.pure ?_
   have:(a++[]).length≤1099511627776:=hl
   rw [IntWalk.wrap64_in _ ⟨by omega,by omega⟩]
   rfl
 | cons c r ih=>
  intro a m hl ho hm
  refine Ev.step (fun k=>rfl) ?_
  simp only [impl_size.l0]
  cases m with
  | zero=>
   rw [Cat.skip_zero]
   refine Ev.ifn (by omega) ?_
   exact Ev.pure (by simp)
  | succ n=>
   have hc:Cat.cellOk c=true:=ho c (by simp)
   obtain ⟨h1,h2⟩:=cellOk_ar hc
   have hll:a.length+(r.length+1)≤1099511627776:=by simpa using hl
   have e1:((a.length:Nat):Int)<((a++c :: r).length:Int):=by simp;omega
   have er:rd_T46 (a++c :: r) ((a.length:Nat):Int)=c:=by simp [rd_T46,List.getD]
   refine Ev.ifp (by omega) (Ev.ifn (by omega) (Ev.ifp (by omega) (Ev.ifp e1 ?_)))
   rw [er]
   refine Ev.bindv (a:=((Cat.ar c:Nat):Int)) h1 ?_
   have e:(a++[c])++r=a++c :: r:=by simp
   have I:=ih (a++[c]) (n+Cat.ar c) (by rw [e];exact hl) (by rw [e];exact ho) (by simp;omega)
   rw [e] at I
   rw [Cat.skip_cons]
   have e2:wrap64 (((a.length+(n+1):Nat):Int)+((Cat.ar c:Nat):Int))=(((a++[c]).length+(n+Cat.ar c):Nat):Int):=by
    rw [IntWalk.wrap64_in _ ⟨by omega,by omega⟩];simp;omega
   have e3:wrap64 (((a.length:Nat):Int)+1)=(((a++[c]).length:Nat):Int):=by
    rw [IntWalk.wrap64_in _ ⟨by omega,by omega⟩];simp
   rw [e2,e3]
   exact I
theorem size_ev (l:List Cat.Cell) (hl:l.length≤1099511627776) (ho:Cat.okl l):Ev (fun k=>impl_size.f k l) ((Cat.sizeOf l:Nat):Int):=by
 have h:=size_l0 l [] 1 (by simpa using hl) (by simpa using ho) (by simp)
 unfold impl_size.f
 unfold Cat.sizeOf
 simp only [List.nil_append,List.length_nil,Nat.zero_add] at h
 cases hs:Cat.skip 1 l with
 | none=>rw [hs] at h;exact h
 | some s=>rw [hs] at h;exact h
theorem skip_len:∀ (l:List Cat.Cell) (n:Nat) (r:List Cat.Cell),Cat.skip n l=some r→r.length≤l.length:=by
 intro l n r h
 obtain ⟨p,e,_⟩:=Cat.skip_split l n r h
 rw [e];simp
theorem sizeOf_eq (l:List Cat.Cell):(Cat.sizeOf l=l.length)↔Cat.skip 1 l=some []:=by
 unfold Cat.sizeOf
 cases h:Cat.skip 1 l with
 | none=>simp
 | some s=>
  have:=skip_len l 1 s h
  simp only [Option.some.injEq]
  constructor
  ·intro e
   cases s with
   | nil=>rfl
   | cons c s=>
    cases l with
    | nil=>simp at this
    | cons d l=>simp at e this;omega
  ·rintro rfl;simp
set_option maxHeartbeats 4000000 in
set_option maxRecDepth 100000 in
theorem containsFunc_cells (g:Nat) (lb:Array Value) (p:Cat.Cell→Bool) (eg:∀ args w,(callFunc g args).run Tryd.prog w = .ok (.enter g args) w) (A0:Option Addr) (c0:Nat) (l0:List (S46)) (w:World)
  (hr0:Kd.C k46 w A0 l0.length l0) (hc0:l0.length≤c0) (hp:PredC g lb p w) :
  Calls Tryd.prog 80 #[.slice A0 l0.length c0,.func (.func g) #[] lb] w fun e w'=>e = .returned (.bool (l0.any p))∧Below w.heap.size w w':=by
 have H:=Aside0.mk (indexFunc_cells g lb p eg A0 c0 l0 w hr0 hc0 hp)
 have HA:=Aside0.mk (firstAt_any p l0 0)
 clear hr0 hp
 go_enter Tryd.func80,Tryd.ntmps80
 go_wp2_with (go_at_call 98;refine H.out.mono ?_;rintro e w' ⟨rfl,hb⟩)
 go_ret
 exact ⟨by rw [← HA.out];rfl,hb⟩
set_option maxHeartbeats 4000000 in
set_option maxRecDepth 100000 in
theorem trmOk_wrong (x:Cat.Cell) (w:World):Calls Tryd.prog 78 #[.agg #[.int .i64 x.f0,.int .i64 x.f1,.string x.f2]] w fun e w'=>e = .returned (.bool (!Cat.cellOk x))∧Below w.heap.size w w':=by
 have A:=Aside0.mk (cellOk_pure x)
 go_enter Tryd.func78,Tryd.ntmps78
 go_wp2_with (go_at_call 79;(with_reducible refine (impl_TrmCell_ok.calls x.f0 x.f1 x.f2 (Cat.cellOk x) _ A.out).mono ?_);rintro e w' ⟨rfl,hb⟩)
 go_ret
 exact ⟨rfl,below_step (below_alloc (Below.refl _ _) _) hb⟩
def impl_TrmOk.f (l0:List (S46)):Option (Bool):=some (Cat.isTerm l0)
set_option maxHeartbeats 4000000 in
set_option maxRecDepth 100000 in
theorem impl_TrmOk.calls (A0:Option Addr) (c0:Nat) (l0:List (S46)) (r:Bool) (w:World) (hr0:Kd.C k46 w A0 l0.length l0) (hc0:l0.length≤c0) (h:impl_TrmOk.f l0=some r) :
  Calls Tryd.prog 42 #[.slice A0 l0.length c0] w fun e w'=>e = .returned (.bool r)∧Below w.heap.size w w':=by
 obtain rfl:=Option.some.inj h
 clear h
 have eg:∀ args w,(callFunc 78 args).run Tryd.prog w = .ok (.enter 78 args) w:=by intro args w;first|rfl|kernel_rfl
 have HF:=Aside0.mk (containsFunc_cells 78 #[] (fun c=>!Cat.cellOk c) eg A0 c0 l0)
 have HC:=Aside0.mk hr0
 have HL:=Aside0.mk hc0
 have P1:=Aside0.mk (fun w=>fun (W:World) (x:Cat.Cell) (_:Below w.heap.size w W)=>trmOk_wrong x W:∀ w:World,PredC 78 #[] (fun c=>!Cat.cellOk c) w)
 clear hr0 hc0 eg
 by_cases h1:1≤l0.length∧l0.length≤40
 case neg=>
  have A:=Aside0.mk (show impl_in.f (l0.length:Int) 1 40=some false by rw [in_pure];exact congrArg some (decide_eq_false (by omega)))
  have R:=Aside0.mk (show Cat.isTerm l0=false by unfold Cat.isTerm;rw [decide_eq_false h1];rfl)
  clear h1
  go_enter Tryd.func42,Tryd.ntmps42
  go_wp2_with (go_at_call 61;(with_reducible refine (impl_in.calls (l0.length:Int) 1 40 false _ A.out).mono ?_);rintro e w' ⟨rfl,⟨nd,rfl⟩⟩)
  go_ret
  exact ⟨by rw [R.out];rfl,pw_below_drewN (Below.refl _ _) _⟩
 have A:=Aside0.mk (show impl_in.f (l0.length:Int) 1 40=some true by rw [in_pure];exact congrArg some (decide_eq_true (by omega)))
 by_cases h2:l0.all Cat.cellOk=true
 case neg=>
  have Q:=Aside0.mk (show (l0.any (fun c=>!Cat.cellOk c))=true by simpa [List.any_eq_true,List.all_eq_true] using h2)
  have R:=Aside0.mk (show Cat.isTerm l0=false by unfold Cat.isTerm;rw [Bool.eq_false_iff.2 h2,Bool.false_and,Bool.and_false])
  clear h1 h2
  go_enter Tryd.func42,Tryd.ntmps42
  go_wp2_with (first|(go_at_call 61;(with_reducible refine (impl_in.calls (l0.length:Int) 1 40 true _ A.out).mono ?_);rintro e w' ⟨rfl,⟨nd,rfl⟩⟩)|(go_at_call 80;(refine (HF.out _ (Kd.C_drewN HC.out _) HL.out (P1.out _)).mono ?_);rintro e w' ⟨rfl,hb⟩;rw [Q.out]))
  go_ret
  exact ⟨by rw [R.out];rfl,below_step (pw_below_drewN (Below.refl _ _) _) hb⟩
 have Q:=Aside0.mk (show (l0.any (fun c=>!Cat.cellOk c))=false by simpa [List.any_eq_false,List.all_eq_true] using h2)
 obtain ⟨k,hk⟩:=(size_ev l0 (by omega) (fun c hc=>List.all_eq_true.1 h2 c hc)).rounds
 have S:=Aside0.mk hk
 clear hk
 by_cases h3:Cat.sizeOf l0=l0.length
 case neg=>
  have R:=Aside0.mk (show Cat.isTerm l0=false by
   unfold Cat.isTerm
   rw [decide_eq_false (fun e=>h3 ((sizeOf_eq l0).2 e)),Bool.and_false,Bool.and_false])
  have e0:(((Cat.sizeOf l0:Nat):Int) == (l0.length:Int))=false:=beq_eq_false_iff_ne.2 (by omega)
  clear h1 h2 h3
  go_enter Tryd.func42,Tryd.ntmps42
  go_wp2_with (first|(go_at_call 61;(with_reducible refine (impl_in.calls (l0.length:Int) 1 40 true _ A.out).mono ?_);rintro e w' ⟨rfl,⟨nd,rfl⟩⟩)|(go_at_call 80;(refine (HF.out _ (Kd.C_drewN HC.out _) HL.out (P1.out _)).mono ?_);rintro e w' ⟨rfl,hb⟩;rw [Q.out];have HB:=Aside0.mk (below_step (pw_below_drewN (Below.refl w.heap.size w) _) hb);clear hb)|(go_at_call 81;(refine (impl_size.calls k A0 c0 l0 _ _ (Kd.C_below HC.out HB.out) HL.out S.out).mono ?_);rintro e w'' ⟨rfl,hb⟩))
  go_ret
  exact ⟨by rw [R.out];rfl,below_step HB.out hb⟩
 have R:=Aside0.mk (show Cat.isTerm l0=true by
  unfold Cat.isTerm
  rw [decide_eq_true ((sizeOf_eq l0).1 h3),decide_eq_true h1,h2];rfl)
 have e0:(((Cat.sizeOf l0:Nat):Int) == (l0.length:Int))=true:=beq_iff_eq.2 (by omega)
 clear h1 h2 h3
 go_enter Tryd.func42,Tryd.ntmps42
 go_wp2_with (first|(go_at_call 61;(with_reducible refine (impl_in.calls (l0.length:Int) 1 40 true _ A.out).mono ?_);rintro e w' ⟨rfl,⟨nd,rfl⟩⟩)|(go_at_call 80;(refine (HF.out _ (Kd.C_drewN HC.out _) HL.out (P1.out _)).mono ?_);rintro e w' ⟨rfl,hb⟩;rw [Q.out];have HB:=Aside0.mk (below_step (pw_below_drewN (Below.refl w.heap.size w) _) hb);clear hb)|(go_at_call 81;(refine (impl_size.calls k A0 c0 l0 _ _ (Kd.C_below HC.out HB.out) HL.out S.out).mono ?_);rintro e w'' ⟨rfl,hb⟩))
 go_ret
 exact ⟨by rw [R.out];rfl,below_step HB.out hb⟩

/-! ### slices_Index_int: function 83 -/
def slices_Index_int.l0:Nat→List Int→Int→Int→Int→Option (Int)
 | 0,_,_,_,_=>none
 | k+1,x0,x1,x7,x8=>if x8<x7 then (if 0≤x8 then (if x8<(x0.length:Int) then (if x1=(rd x0 x8) then (some x8) else (slices_Index_int.l0 k x0 x1 x7 (wrap64 (x8+1)))) else (none)) else (none)) else (some (-1))
def slices_Index_int.f (k:Nat) (l0:List Int) (a1:Int):Option (Int):=slices_Index_int.l0 k l0 a1 (l0.length:Int) 0
set_option maxHeartbeats 8000000 in
set_option maxRecDepth 100000 in
theorem slices_Index_int.calls (k:Nat) (A0:Option Addr) (c0:Nat) (l0:List Int) (a1:Int) (r:Int) (w:World) (hr0:Kd.C (Kd.int .i64) w A0 l0.length l0) (hc0:l0.length≤c0) (h:slices_Index_int.f k l0 a1=some r) :
  Calls Tryd.prog 83 #[.slice A0 l0.length c0,.int .i64 a1] w fun e w'=>e = .returned (.int .i64 r)∧Drawn0 w w':=by
 have HR0:=Aside0.mk hr0
 have HC0:=Aside0.mk hc0
 clear hr0 hc0
 have H:(slices_Index_int.l0 k l0 a1 (l0.length:Int) 0)=some r:=h
 clear h
 have H':=Aside0.mk H
 clear H
 go_enter Tryd.func83,Tryd.ntmps83
 go_wp2
 go_loopg [8] k (fun kq v8 w'=>∃ (x8_1:Int),v8 = .int .i64 x8_1∧Aside0 (slices_Index_int.l0 kq l0 a1 (l0.length:Int) x8_1=some r)∧Aside0 (kq≤k)∧Drawn0 w w')
 case atStart=>exact ⟨(0),qz9,H',⟨Nat.le_refl _⟩,qz24⟩
 case round=>
  clear H'
  try clear p2
  obtain ⟨x8_1,rfl,HA,HK1,⟨m1,rfl⟩⟩:=hrel
  cases gk with
  | zero=>exact absurd HA.out (by simp [slices_Index_int.l0])
  | succ k1=>
   have H:=HA.out
   clear HA
   simp only [slices_Index_int.l0] at H
   by_cases c3:x8_1<(l0.length:Int)
   ·rw [if_pos c3] at H
    have c3b0:decide (x8_1<(l0.length:Int))=true:=decide_eq_true c3
    clear c3
    by_cases c4:0≤x8_1
    ·rw [if_pos c4] at H
     have c4b0:decide (0≤x8_1)=true:=decide_eq_true c4
     clear c4
     by_cases c5:x8_1<(l0.length:Int)
     ·rw [if_pos c5] at H
      have c5b0:decide (x8_1<(l0.length:Int))=true:=decide_eq_true c5
      clear c5
      by_cases c6:a1=(rd l0 x8_1)
      ·rw [if_pos c6] at H
       have c6b0:(a1 == (rd l0 x8_1))=true:=beq_iff_eq.mpr c6
       have c6b1:(a1 != (rd l0 x8_1))=false:=bne_eq_false_iff_eq.mpr c6
       clear c6
       obtain rfl:=Option.some.inj H
       have p117:0≤(x8_1:Int):=of_decide_eq_true qz6
       have q117:x8_1<(l0.length:Int):=of_decide_eq_true qz6
       obtain ⟨ad117,e117,hx117_0⟩:=Kd.at_int HR0.out x8_1 p117 q117
       cases e117
       replace p117:=eq_true p117
       replace q117:=eq_true q117
       go_wp2
       go_ret
       exact ⟨qz9,qz24⟩
      ·rw [if_neg c6] at H
       have c6b0:(a1 == (rd l0 x8_1))=false:=beq_eq_false_iff_ne.mpr c6
       have c6b1:(a1 != (rd l0 x8_1))=true:=bne_iff_ne.mpr c6
       have H':=Aside0.mk H
       clear H
       have p117:0≤(x8_1:Int):=of_decide_eq_true qz6
       have q117:x8_1<(l0.length:Int):=of_decide_eq_true qz6
       obtain ⟨ad117,e117,hx117_0⟩:=Kd.at_int HR0.out x8_1 p117 q117
       cases e117
       replace p117:=eq_true p117
       replace q117:=eq_true q117
       go_wp2
       go_roundg k1
       case measure=>have:=HK1.out;omega
       case rel=>exact ⟨(wrap64 (x8_1+1)),qz9,H',⟨by have:=HK1.out;omega⟩,qz24⟩
     ·rw [if_neg c5] at H
      exact absurd H (by simp)
    ·rw [if_neg c4] at H
     exact absurd H (by simp)
   ·rw [if_neg c3] at H
    have c3b0:decide (x8_1<(l0.length:Int))=false:=decide_eq_false c3
    clear c3
    obtain rfl:=Option.some.inj H
    go_wp2
    go_ret
    exact ⟨qz9,qz24⟩

/-! ### slices_Contains_int: function 71 -/
def slices_Contains_int.f (k:Nat) (l0:List Int) (a1:Int):Option (Bool):=(slices_Index_int.f k l0 a1).bind fun t118=>(some (decide (t118≥0)))
set_option maxHeartbeats 8000000 in
set_option maxRecDepth 100000 in
theorem slices_Contains_int.calls (k:Nat) (A0:Option Addr) (c0:Nat) (l0:List Int) (a1:Int) (r:Bool) (w:World) (hr0:Kd.C (Kd.int .i64) w A0 l0.length l0) (hc0:l0.length≤c0) (h:slices_Contains_int.f k l0 a1=some r) :
  Calls Tryd.prog 71 #[.slice A0 l0.length c0,.int .i64 a1] w fun e w'=>e = .returned (.bool r)∧Drawn0 w w':=by
 have HR0:=Aside0.mk hr0
 have HC0:=Aside0.mk hc0
 clear hr0 hc0
 have H:((slices_Index_int.f k l0 a1).bind fun t118=>(some (decide (t118≥0))))=some r:=h
 clear h
 replace H:=Option.bind_eq_some_iff.mp H
 obtain ⟨t118,A30,H⟩:=H
 try dsimp only at H
 have A3:=Aside0.mk A30
 clear A30
 obtain rfl:=Option.some.inj H
 go_enter Tryd.func71,Tryd.ntmps71
 go_wp2_with (first|(go_at_call 83;(with_reducible refine (slices_Index_int.calls k _ _ l0 a1 t118 _ ?side1 ?side2 A3.out).mono ?_);(case side1=>exact qz28);(case side2=>exact HC0.out);rintro e w' ⟨rfl,⟨nd,rfl⟩⟩))
 go_ret
 exact ⟨qz9,qz24⟩

/-! ### impl_TrmFree: function 32 -/
def impl_TrmFree.l0:Nat→List Int→List (S46)→Int→Int→Option (List Int)
 | 0,_,_,_,_=>none
 | k+1,x3,x6,x7,x8=>if x8<x7 then (if 0≤x8 then (if x8<(x6.length:Int) then (if ((rd_T46 x6 x8).f0)=1 then ((slices_Contains_int.f k x3 ((rd_T46 x6 x8).f1)).bind fun t121=>(if t121=true then (impl_TrmFree.l0 k x3 x6 x7 (wrap64 (x8+1))) else (if x3.length<17592186044416 then (impl_TrmFree.l0 k (x3++[(rd_T46 x6 x8).f1]) x6 x7 (wrap64 (x8+1))) else (none)))) else (impl_TrmFree.l0 k x3 x6 x7 (wrap64 (x8+1)))) else (none)) else (none)) else (some x3)
def impl_TrmFree.f (k:Nat) (l0:List (S46)):Option (List Int):=impl_TrmFree.l0 k ([]:List Int) l0 (l0.length:Int) 0
set_option maxHeartbeats 8000000 in
set_option maxRecDepth 100000 in
theorem impl_TrmFree.calls (k:Nat) (A0:Option Addr) (c0:Nat) (l0:List (S46)) (r:List Int) (w:World) (hr0:Kd.C k46 w A0 l0.length l0) (hc0:l0.length≤c0) (h:impl_TrmFree.f k l0=some r) :
  Calls Tryd.prog 32 #[.slice A0 l0.length c0] w fun e w'=>∃ v0_:Value,e = .returned (v0_)∧Kd.R (Kd.int .i64) 3 w' w.heap.size (fun _=>True) v0_ r∧Below w.heap.size w w':=by
 have hu46:=Tryd.underlying46
 have HR0:=Aside0.mk hr0
 have HC0:=Aside0.mk hc0
 clear hr0 hc0
 have HB:=Aside0.mk (Below.refl w.heap.size w)
 have H:(impl_TrmFree.l0 k ([]:List Int) l0 (l0.length:Int) 0)=some r:=h
 clear h
 have H':=Aside0.mk H
 clear H
 go_enter Tryd.func32,Tryd.ntmps32
 go_wp2
 go_loopg [3,8] k (fun kq v3 v8 w'=>∃ (x3_1:List Int) (x8_1:Int),v8 = .int .i64 x8_1∧Aside0 (impl_TrmFree.l0 kq x3_1 l0 (l0.length:Int) x8_1=some r)∧Aside0 (kq≤k)∧Aside0 (Kd.R (Kd.int .i64) 3 w' w.heap.size (fun _=>True) v3 x3_1)∧Aside0 (Below w.heap.size w w'))
 case atStart=>exact ⟨(([]:List Int)),(0),qz9,H',⟨Nat.le_refl _⟩,⟨qz64⟩,⟨qz5⟩⟩
 case round=>
  clear H'
  obtain ⟨x3_1,x8_1,rfl,HA,HK1,HO_3,HB⟩:=hrel
  cases gk with
  | zero=>exact absurd HA.out (by simp [impl_TrmFree.l0])
  | succ k1=>
   have H:=HA.out
   clear HA
   simp only [impl_TrmFree.l0] at H
   by_cases c2:x8_1<(l0.length:Int)
   ·rw [if_pos c2] at H
    have c2b0:decide (x8_1<(l0.length:Int))=true:=decide_eq_true c2
    clear c2
    by_cases c3:0≤x8_1
    ·rw [if_pos c3] at H
     have c3b0:decide (0≤x8_1)=true:=decide_eq_true c3
     clear c3
     by_cases c4:x8_1<(l0.length:Int)
     ·rw [if_pos c4] at H
      have c4b0:decide (x8_1<(l0.length:Int))=true:=decide_eq_true c4
      clear c4
      by_cases c5:((rd_T46 l0 x8_1).f0)=1
      ·rw [if_pos c5] at H
       have c5b0:(((rd_T46 l0 x8_1).f0) == 1)=true:=beq_iff_eq.mpr c5
       have c5b1:(((rd_T46 l0 x8_1).f0) != 1)=false:=bne_eq_false_iff_eq.mpr c5
       clear c5
       replace H:=Option.bind_eq_some_iff.mp H
       obtain ⟨t121,A60,H⟩:=H
       try dsimp only at H
       have A6:=Aside0.mk A60
       clear A60
       by_cases c7:t121=true
       ·subst c7
        have H1:(impl_TrmFree.l0 k1 x3_1 l0 (l0.length:Int) (wrap64 (x8_1+1)))=some r:=qz34
        clear H
        have H:=H1
        clear H1
        have H':=Aside0.mk H
        clear H
        have p119:0≤(x8_1:Int):=of_decide_eq_true qz6
        have q119:x8_1<(l0.length:Int):=of_decide_eq_true qz6
        obtain ⟨ad119,e119,hx119_0,hx119_1,hx119_2⟩:=at_T46 HR0.out x8_1 p119 q119
        cases e119
        replace hx119_0:=(HB.out.cell (World.block_lt_of_cell? w _ hx119_0)).trans hx119_0
        replace hx119_1:=(HB.out.cell (World.block_lt_of_cell? w _ hx119_1)).trans hx119_1
        replace hx119_2:=(HB.out.cell (World.block_lt_of_cell? w _ hx119_2)).trans hx119_2
        replace p119:=eq_true p119
        replace q119:=eq_true q119
        go_wp2_with (first|((with_reducible refine gate_dst (N:=5) rfl ?_);refine box_event ?hg (N:=5) ?hd (cs:=#[.int .i64 0,.int .i64 0,.string (⟨#[]⟩:ByteArray)]) (t:=46) ?hr ?_;(case hd=>rfl);(case hg=>rfl);(case hr=>first|(go_simp;done)|(go_simp;rfl));intro gb120 hg w8 hbox hb;have n0_:=Aside0.mk (Kd.R_below qz42 hb);have n1_:=Aside0.mk (below_step qz4 hb);have n2_:=Aside0.mk (hbox);have n3_:=Aside0.mk ((by rw [hg];exact (below_size qz4):w.heap.size≤gb120));have n4_:=Aside0.mk ((by rw [hg];exact (below_size qz4):w.heap.size≤gb120));clear HO_3 HB;have HO_3:=n0_;have HB:=n1_;have BK120:=n2_;have GW120:=n3_;have GE120:=n4_;clear n0_ n1_ n2_ n3_ n4_ hb hbox hg;have hcz9_0:w8.cell? ⟨gb120,0,none⟩=some (.int .i64 0):=(blk_cell BK120.out 0).trans rfl;have hcz9_1:w8.cell? ⟨gb120,1,none⟩=some (.int .i64 0):=(blk_cell BK120.out 1).trans rfl;have hcz9_2:w8.cell? ⟨gb120,2,none⟩=some (.string (⟨#[]⟩:ByteArray)):=(blk_cell BK120.out 2).trans rfl;have hfz9_0:=blk_frozen BK120.out 0;have hfz9_1:=blk_frozen BK120.out 1;have hfz9_2:=blk_frozen BK120.out 2;obtain ⟨Ao10,co10,eo10⟩:=Kd.R_slice HO_3.out;subst eo10)|(go_at_call 71;(with_reducible refine (slices_Contains_int.calls k1 _ _ x3_1 ((rd_T46 l0 x8_1).f1) true _ ?side1 ?side2 A6.out).mono ?_);(case side1=>refine (Kd.R_reads' (e:=3) (base:=w.heap.size) (ok:=fun k_=>True) (n:=x3_1.length) (c:=co10) ?_).2.2;exact qz49);(case side2=>exact (Kd.R_reads' HO_3.out).2.1);rintro e w' ⟨rfl,⟨nd,rfl⟩⟩))
        go_roundg k1
        case measure=>have:=HK1.out;omega
        case rel=>exact ⟨(x3_1),(wrap64 (x8_1+1)),qz9,H',⟨by have:=HK1.out;omega⟩,⟨qz35⟩,⟨qz44⟩⟩
       ·replace c7:=Bool.eq_false_iff.mpr c7
        subst c7
        have H1:(if x3_1.length<17592186044416 then (impl_TrmFree.l0 k1 (x3_1++[(rd_T46 l0 x8_1).f1]) l0 (l0.length:Int) (wrap64 (x8_1+1))) else (none))=some r:=qz21
        clear H
        have H:=H1
        clear H1
        by_cases c11:x3_1.length<17592186044416
        ·rw [if_pos c11] at H
         have LMc11:=Aside0.mk c11
         clear c11
         obtain ⟨y122,hy122⟩:∃ y_:List Int,y_=(x3_1++[(rd_T46 l0 x8_1).f1]):=⟨_,rfl⟩
         replace H:(impl_TrmFree.l0 k1 y122 l0 (l0.length:Int) (wrap64 (x8_1+1)))=some r:=by first|(rw [hy122];exact H)|exact H
         have Ny122:=Aside0.mk hy122
         clear hy122
         have H':=Aside0.mk H
         clear H
         have p119:0≤(x8_1:Int):=of_decide_eq_true qz6
         have q119:x8_1<(l0.length:Int):=of_decide_eq_true qz6
         obtain ⟨ad119,e119,hx119_0,hx119_1,hx119_2⟩:=at_T46 HR0.out x8_1 p119 q119
         cases e119
         replace hx119_0:=(HB.out.cell (World.block_lt_of_cell? w _ hx119_0)).trans hx119_0
         replace hx119_1:=(HB.out.cell (World.block_lt_of_cell? w _ hx119_1)).trans hx119_1
         replace hx119_2:=(HB.out.cell (World.block_lt_of_cell? w _ hx119_2)).trans hx119_2
         replace p119:=eq_true p119
         replace q119:=eq_true q119
         go_wp2_with (first|((with_reducible refine gate_dst (N:=5) rfl ?_);refine box_event ?hg (N:=5) ?hd (cs:=#[.int .i64 0,.int .i64 0,.string (⟨#[]⟩:ByteArray)]) (t:=46) ?hr ?_;(case hd=>rfl);(case hg=>rfl);(case hr=>first|(go_simp;done)|(go_simp;rfl));intro gb120 hg w12 hbox hb;have n0_:=Aside0.mk (Kd.R_below qz42 hb);have n1_:=Aside0.mk (below_step qz4 hb);have n2_:=Aside0.mk (hbox);have n3_:=Aside0.mk ((by rw [hg];exact (below_size qz4):w.heap.size≤gb120));have n4_:=Aside0.mk ((by rw [hg];exact (below_size qz4):w.heap.size≤gb120));clear HO_3 HB;have HO_3:=n0_;have HB:=n1_;have BK120:=n2_;have GW120:=n3_;have GE120:=n4_;clear n0_ n1_ n2_ n3_ n4_ hb hbox hg;have hcz13_0:w12.cell? ⟨gb120,0,none⟩=some (.int .i64 0):=(blk_cell BK120.out 0).trans rfl;have hcz13_1:w12.cell? ⟨gb120,1,none⟩=some (.int .i64 0):=(blk_cell BK120.out 1).trans rfl;have hcz13_2:w12.cell? ⟨gb120,2,none⟩=some (.string (⟨#[]⟩:ByteArray)):=(blk_cell BK120.out 2).trans rfl;have hfz13_0:=blk_frozen BK120.out 0;have hfz13_1:=blk_frozen BK120.out 1;have hfz13_2:=blk_frozen BK120.out 2;obtain ⟨Ao14,co14,eo14⟩:=Kd.R_slice HO_3.out;subst eo14)|(go_at_call 71;(with_reducible refine (slices_Contains_int.calls k1 _ _ x3_1 ((rd_T46 l0 x8_1).f1) false _ ?side1 ?side2 A6.out).mono ?_);(case side1=>refine (Kd.R_reads' (e:=3) (base:=w.heap.size) (ok:=fun k_=>True) (n:=x3_1.length) (c:=co14) ?_).2.2;exact qz49);(case side2=>exact (Kd.R_reads' HO_3.out).2.1);rintro e w' ⟨rfl,⟨nd,rfl⟩⟩)|((with_reducible refine gate_builtin (b:=.append) (xs:=#[.tmp 22,.tmp 25]) rfl ?_);at_builtin;refine Kd.R_append (Kd.int .i64) (w0:=w) w.heap.size rfl (.tmp 22) (.tmp 25) 43 3 (.int .i64 0) 8 rfl Tryd.underlying43 info3 rfl (by decide) (by omega) (.slice Ao14 x3_1.length co14) x3_1 ((rd_T46 l0 x8_1).f1) [.int .i64 ((rd_T46 l0 x8_1).f1)] (fun _=>True) (fun _=>False) rfl (by first|(go_simp;done)|(go_simp;rfl)) ?aP (fun _ hk=>hk.elim) ?aF ?aO ?aB ?aS ?aL ?_;(case aP=>exact rfl);(case aB=>exact qz44);(case aF=>exact (fun _ _=>trivial));(case aO=>exact qz35);(case aS=>exact (below_size qz44));(case aL=>have:=LMc11.out;omega);intro v123 w15 ho hb hg hat;rw [← Ny122.out] at ho;have n0_:=Aside0.mk (blk_grown (g:=gb120) (o:=.cells #[.int .i64 ((rd_T46 l0 x8_1).f0),.int .i64 ((rd_T46 l0 x8_1).f1),.string ((rd_T46 l0 x8_1).f2)] 46 (0,0)) (by (with_reducible repeat (first|refine blk_drewN ?_ _|refine blk_drew ?_|refine blk_alloc ?_ _));refine blk_put (cs:=#[.int .i64 ((rd_T46 l0 x8_1).f0),.int .i64 ((rd_T46 l0 x8_1).f1),.string (⟨#[]⟩:ByteArray)]) ?_ 2 _ rfl;(with_reducible repeat (first|refine blk_drewN ?_ _|refine blk_drew ?_|refine blk_alloc ?_ _));refine blk_put (cs:=#[.int .i64 ((rd_T46 l0 x8_1).f0),.int .i64 0,.string (⟨#[]⟩:ByteArray)]) ?_ 1 _ rfl;(with_reducible repeat (first|refine blk_drewN ?_ _|refine blk_drew ?_|refine blk_alloc ?_ _));refine blk_put (cs:=#[.int .i64 0,.int .i64 0,.string (⟨#[]⟩:ByteArray)]) ?_ 0 _ rfl;(with_reducible repeat (first|refine blk_drewN ?_ _|refine blk_drew ?_|refine blk_alloc ?_ _));exact BK120.out) hg (by first|exact Kd.R_ne HO_3.out BK120.out (by decide)|exact fun he_=>(HO_3.out.1 _ he_.symm).2 rfl));have n1_:=Aside0.mk (hb);have n2_:=Aside0.mk (ho);clear BK120 HB HO_3;have BK120:=n0_;have HB:=n1_;have HO124:=n2_;clear n0_ n1_ n2_ ho hb hg hat))
         go_roundg k1
         case measure=>have:=HK1.out;omega
         case rel=>exact ⟨(y122),(wrap64 (x8_1+1)),qz9,H',⟨by have:=HK1.out;omega⟩,⟨by (with_reducible repeat (first|apply Kd.R_alloc|apply Kd.R_drewN|apply Kd.R_drew));exact HO124.out⟩,⟨qz44⟩⟩
        ·rw [if_neg c11] at H
         exact absurd H (by simp)
      ·rw [if_neg c5] at H
       have c5b0:(((rd_T46 l0 x8_1).f0) == 1)=false:=beq_eq_false_iff_ne.mpr c5
       have c5b1:(((rd_T46 l0 x8_1).f0) != 1)=true:=bne_iff_ne.mpr c5
       have H':=Aside0.mk H
       clear H
       have p119:0≤(x8_1:Int):=of_decide_eq_true qz6
       have q119:x8_1<(l0.length:Int):=of_decide_eq_true qz6
       obtain ⟨ad119,e119,hx119_0,hx119_1,hx119_2⟩:=at_T46 HR0.out x8_1 p119 q119
       cases e119
       replace hx119_0:=(HB.out.cell (World.block_lt_of_cell? w _ hx119_0)).trans hx119_0
       replace hx119_1:=(HB.out.cell (World.block_lt_of_cell? w _ hx119_1)).trans hx119_1
       replace hx119_2:=(HB.out.cell (World.block_lt_of_cell? w _ hx119_2)).trans hx119_2
       replace p119:=eq_true p119
       replace q119:=eq_true q119
       go_wp2_with (first|((with_reducible refine gate_dst (N:=5) rfl ?_);refine box_event ?hg (N:=5) ?hd (cs:=#[.int .i64 0,.int .i64 0,.string (⟨#[]⟩:ByteArray)]) (t:=46) ?hr ?_;(case hd=>rfl);(case hg=>rfl);(case hr=>first|(go_simp;done)|(go_simp;rfl));intro gb120 hg w16 hbox hb;have n0_:=Aside0.mk (Kd.R_below qz42 hb);have n1_:=Aside0.mk (below_step qz4 hb);have n2_:=Aside0.mk (hbox);have n3_:=Aside0.mk ((by rw [hg];exact (below_size qz4):w.heap.size≤gb120));have n4_:=Aside0.mk ((by rw [hg];exact (below_size qz4):w.heap.size≤gb120));clear HO_3 HB;have HO_3:=n0_;have HB:=n1_;have BK120:=n2_;have GW120:=n3_;have GE120:=n4_;clear n0_ n1_ n2_ n3_ n4_ hb hbox hg;have hcz17_0:w16.cell? ⟨gb120,0,none⟩=some (.int .i64 0):=(blk_cell BK120.out 0).trans rfl;have hcz17_1:w16.cell? ⟨gb120,1,none⟩=some (.int .i64 0):=(blk_cell BK120.out 1).trans rfl;have hcz17_2:w16.cell? ⟨gb120,2,none⟩=some (.string (⟨#[]⟩:ByteArray)):=(blk_cell BK120.out 2).trans rfl;have hfz17_0:=blk_frozen BK120.out 0;have hfz17_1:=blk_frozen BK120.out 1;have hfz17_2:=blk_frozen BK120.out 2))
       go_roundg k1
       case measure=>have:=HK1.out;omega
       case rel=>exact ⟨(x3_1),(wrap64 (x8_1+1)),qz9,H',⟨by have:=HK1.out;omega⟩,⟨qz35⟩,⟨qz44⟩⟩
     ·rw [if_neg c4] at H
      exact absurd H (by simp)
    ·rw [if_neg c3] at H
     exact absurd H (by simp)
   ·rw [if_neg c2] at H
    have c2b0:decide (x8_1<(l0.length:Int))=false:=decide_eq_false c2
    clear c2
    obtain rfl:=Option.some.inj H
    go_wp2
    go_ret
    exact ⟨_,qz7,qz42,qz5⟩

/-! ### spec_l1In: function 57 -/
def spec_l1In.f (a0:Int) (a1:Int) (a2:Int):Option (Bool):=if a0≥a1 then (some (decide (a0≤a2))) else (some false)
set_option maxHeartbeats 8000000 in
set_option maxRecDepth 100000 in
theorem spec_l1In.calls (a0:Int) (a1:Int) (a2:Int) (r:Bool) (w:World) (h:spec_l1In.f a0 a1 a2=some r) :
  Calls Tryd.prog 57 #[.int .i64 a0,.int .i64 a1,.int .i64 a2] w fun e w'=>e = .returned (.bool r)∧Drawn0 w w':=by
 have H:(if a0≥a1 then (some (decide (a0≤a2))) else (some false))=some r:=h
 clear h
 by_cases c4:a0≥a1
 ·rw [if_pos c4] at H
  have c4b0:decide (a1≤a0)=true:=decide_eq_true c4
  clear c4
  obtain rfl:=Option.some.inj H
  go_enter Tryd.func57,Tryd.ntmps57
  go_wp2
  go_ret
  exact ⟨qz9,qz24⟩
 ·rw [if_neg c4] at H
  have c4b0:decide (a1≤a0)=false:=decide_eq_false c4
  clear c4
  obtain rfl:=Option.some.inj H
  go_enter Tryd.func57,Tryd.ntmps57
  go_wp2
  go_ret
  exact ⟨qz9,qz24⟩

end Go.Proofs.YtlaicnoikeieeaaDoor.P
