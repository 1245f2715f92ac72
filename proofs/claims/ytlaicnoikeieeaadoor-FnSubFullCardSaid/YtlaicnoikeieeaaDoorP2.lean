/- Contracts of functions of the program: each as a Lean function, and that its call does what that says; printed by cprint.py (this session) over print.py of the kit. Conditions: the hypotheses of each theorem. -/
import Derived.Test.YtlaicnoikeieeaaDoorVZ
import Derived.Test.YtlaicnoikeieeaaDoorP0
namespace Go.Proofs.YtlaicnoikeieeaaDoor.P
open Go.RowKit Go.Proofs.YtlaicnoikeieeaaDoorW.PrintWords Go.Proofs.YtlaicnoikeieeaaDoorW.PrintLast Go.Proofs.YtlaicnoikeieeaaDoorW.PrintMore
attribute [local go_sem] max2_int min2_int max_two min_two max_three min_three max_four min_four   -- for this text's walks alone
set_option linter.unusedVariables false
set_option linter.unusedSimpArgs false

/-! ### slices_IndexFunc_SubBind: function 53 -/
/-- which binding is the first at which p says yes, p going through states; -1, if none is -/
def firstS {σ:Type} (p:σ→Cat.Bind→Option (Bool × σ)):σ→List Cat.Bind→Nat→Option (Int × σ)
 | s,[],_=>some (-1,s)
 | s,x :: l,i=>(p s x).bind fun r=>if r.1=true then some ((i:Int),r.2) else firstS p r.2 l (i+1)
theorem grown_both {a b c:World} {g:Option Nat} (h:a.grownBy b g) (k:b.grownBy c g):a.grownBy c g:=
 ⟨k.os.trans h.os,k.tape.trans h.tape,k.output.trans h.output,Nat.le_trans h.size k.size,fun i hi hg=>(k.block i (Nat.lt_of_lt_of_le hi h.size) hg).trans (h.block i hi hg)⟩
theorem grown_nothing (w:World) (g:Option Nat):w.grownBy w g:=⟨rfl,rfl,rfl,Nat.le_refl _,fun _ _ _=>rfl⟩
theorem grown_below {w w':World} (h:Below w.heap.size w w') (g:Option Nat):w.grownBy w' g:=⟨h.os,h.tape,h.output,h.size,fun k hk _=>h.block k hk⟩
theorem below_grown {w w':World} (h:w.grownBy w' none):Below w.heap.size w w':=⟨h.os,h.tape,h.output,h.size,fun k hk=>h.block k hk (by simp)⟩
/-- what is asked of a predicate on bindings that goes through states: told in memory by J; it may write the block row -/
def PredB {σ:Type} (g:Nat) (lb:Array Value) (row:Option Nat) (p:σ→Cat.Bind→Option (Bool × σ)) (J:σ→World→Prop) (w:World):Prop:=
 ∀ (s s':σ) (x:Cat.Bind) (b:Bool) (W:World) (A:Option Addr) (c:Nat),p s x=some (b,s')→w.grownBy W row→J s W→x.f1.length≤c→Kd.C k46 W A x.f1.length x.f1→
  Calls Tryd.prog g (#[.agg #[.int .i64 x.f0,.slice A x.f1.length c]]++lb) W fun e w'=>e = .returned (.bool b)∧J s' w'∧W.grownBy w' row
set_option maxHeartbeats 4000000 in
set_option maxRecDepth 100000 in
theorem indexFunc_binds {σ:Type} (g:Nat) (lb:Array Value) (row:Option Nat) (p:σ→Cat.Bind→Option (Bool × σ)) (J:σ→World→Prop) (eg:∀ args w,(callFunc g args).run Tryd.prog w = .ok (.enter g args) w)
  (A0:Option Addr) (c0:Nat) (l0:List (S30)) (w:World) (hr0:∀ W,w.grownBy W row→Kd.C k30 W A0 l0.length l0) (hp:PredB g lb row p J w) (s0 s1:σ) (r:Int) (h:firstS p s0 l0 0=some (r,s1)) (hJ:J s0 w) :
  Calls Tryd.prog 53 #[.slice A0 l0.length c0,.func (.func g) #[] lb] w fun e w'=>e = .returned (.int .i64 r)∧J s1 w'∧w.grownBy w' row:=by
 have HR:=Aside0.mk hr0
 have HP:=Aside0.mk hp
 have HH:=Aside0.mk h
 have HJ:=Aside0.mk hJ
 have hm:l0.length≤9223372036854775807:=(hr0 w (grown_nothing w row)).2.1
 clear hr0 hp h hJ
 go_enter Tryd.func53,Tryd.ntmps53
 go_wp2
 go_loopg [5,8] l0.length (fun gg _ s8 wr=>∃ (kk:Nat) (s:σ),kk≤l0.length∧l0.length - kk≤gg∧s8 = .int .i64 kk∧Aside0 (w.grownBy wr row)∧Aside0 (J s wr)∧Aside0 (firstS p s (l0.drop kk) kk=some (r,s1)))
 case atStart=>exact ⟨0,s0,Nat.zero_le _,by omega,rfl,⟨grown_nothing _ _⟩,HJ,⟨by rw [List.drop_zero];exact HH.out⟩⟩
 case round=>
  obtain ⟨kk,s,hkk,hg,rfl,BW,JW,A⟩:=hrel
  by_cases hlt:kk<l0.length
  ·have hltz:(kk:Int)<(l0.length:Int):=by omega
   have hl:=A.out
   rw [List.drop_eq_getElem_cons hlt,firstS] at hl
   cases ex:p s l0[kk] with
   | none=>rw [ex] at hl;cases hl
   | some q=>
   obtain ⟨bx,sx⟩:=q
   rw [ex] at hl
   simp only [Option.bind_some] at hl
   obtain ⟨ad,A1,c1,e1,hx0,hx1,hl1,hC1⟩:=at_T30 (HR.out wr BW.out) (kk:Int) (by omega) hltz
   cases e1
   rw [Int.toNat_natCast] at hx0 hx1
   have ey:rd_T30 l0 (kk:Int)=l0[kk]:=by simp [rd_T30,List.getD,hlt]
   rw [ey] at hx0 hx1 hl1 hC1
   have hcall:=HP.out s sx l0[kk] bx wr A1 c1 ex BW.out JW.out hl1 hC1
   generalize l0[kk]=y at hx0 hx1 hcall ex hl1 hC1
   have HLL:=Aside0.mk hl
   clear hl ex ey hC1 hl1
   cases bx with
   | true=>
    go_wp2_with (go_at_fn g;refine hcall.mono ?_;rintro e w' ⟨rfl,hj',hb'⟩;have HJ':=Aside0.mk hj';have HB':=Aside0.mk hb';clear hj' hb')
    go_ret
    have h1:=HLL.out
    rw [if_pos (by simp)] at h1
    obtain ⟨rfl,rfl⟩:=Prod.mk.inj (Option.some.inj h1)
    exact ⟨rfl,HJ'.out,grown_both BW.out HB'.out⟩
   | false=>
    go_wp2_with (go_at_fn g;refine hcall.mono ?_;rintro e w' ⟨rfl,hj',hb'⟩;have HJ':=Aside0.mk hj';have HB':=Aside0.mk hb';clear hj' hb')
    go_roundg (l0.length - (kk+1))
    case measure=>omega
    case rel=>
     refine ⟨kk+1,sx,by omega,by omega,by go_num,⟨grown_both BW.out HB'.out⟩,HJ',⟨?_⟩⟩
     have h1:=HLL.out
     rwa [if_neg (by simp)] at h1
  ·have hltz:¬ (kk:Int)<(l0.length:Int):=by omega
   have hl:=A.out
   rw [List.drop_eq_nil_of_le (by omega),firstS] at hl
   obtain ⟨rfl,rfl⟩:=Prod.mk.inj (Option.some.inj hl)
   clear hl
   go_wp2
   go_ret
   exact ⟨rfl,JW.out,BW.out⟩

/-! ### slices_Clone_TrmCell: function 55 -/
/-- slices.Clone of places: the same places, in new memory. -/
def slices_Clone_TrmCell.f (l0:List (S46)):Option ((List (S46))):=if l0.length<4398046511104 then some l0 else none
set_option maxHeartbeats 4000000 in
set_option maxRecDepth 100000 in
theorem slices_Clone_TrmCell.calls (A0:Option Addr) (c0:Nat) (l0:List (S46)) (r:List (S46)) (w:World) (hr0:Kd.C k46 w A0 l0.length l0) (hc0:l0.length≤c0) (h:slices_Clone_TrmCell.f l0=some r) :
  Calls Tryd.prog 55 #[.slice A0 l0.length c0] w fun e w'=>∃ v0_:Value,e = .returned (v0_)∧Kd.R k46 46 w' w.heap.size (fun _=>True) v0_ r∧Below w.heap.size w w':=by
 unfold slices_Clone_TrmCell.f at h
 by_cases hl:l0.length<4398046511104
 case neg=>rw [if_neg hl] at h;cases h
 rw [if_pos hl] at h
 obtain rfl:=Option.some.inj h
 clear h
 have q:=fun (w:World) (a:Option Addr) (n c n' c':Nat)=>Lib.run_eql_slice_nil (P:=Tryd.prog) w 26 46 a n c n' c' Tryd.underlying26
 cases A0 with
 | none=>
  have h0:l0=[]:=by
   rcases Nat.eq_zero_or_pos l0.length with h|h
   ·exact List.length_eq_zero_iff.1 h
   ·obtain ⟨ad,he,_⟩:=hr0.2.2 h
    cases he
  subst h0
  go_enter Tryd.func55,Tryd.ntmps55
  go_wp2
  go_ret
  exact ⟨_,rfl,Kd.R_nil _ _ _ _ _,Below.refl _ _⟩
 | some ad=>
  have HR:=Aside0.mk hr0
  have HL:=Aside0.mk hl
  clear hr0 hl
  go_enter Tryd.func55,Tryd.ntmps55
  go_wp2_with (first|((with_reducible refine gate_dst (N:=5) rfl ?_);refine Kd.R_lit k46 _ 46 ?hg (N:=5) ?hd (xs:=([]:List (S46))) (inner:=[]) (ok:=fun _=>True) (okp:=fun _=>True) ?hr ?hp (fun _ hk=>hk) trivial (Below.refl _ _) (Nat.le_refl _) (by simp) ?_;(case hd=>rfl);(case hg=>rfl);(case hr=>first|(go_simp;done)|(go_simp;rfl));(case hp=>exact (Reps.none _ _));intro v1 w1 ho hb hg_ hnew_;clear hg_ hnew_;have HO:=Aside0.mk ho;have HB:=Aside0.mk hb;clear ho hb)|((with_reducible refine gate_builtin (b:=.append) (xs:=#[.tmp 5,.tmp 6]) rfl ?_);at_builtin;refine Kd.R_append_rows k46 (w0:=w) w.heap.size rfl (.tmp 5) (.tmp 6) 26 46 (.agg #[(.int .i64 0),(.int .i64 0),(.string ⟨#[]⟩)]) 32 rfl Tryd.underlying26 info46 rfl (by decide) (by omega) v1 [] l0 _ _ _ (fun _=>True) (fun _=>False) rfl rfl ?aO ?aR (fun _ _ h=>h) (fun _ h=>h.elim) ?aF ?aB ?aS ?aL ?_;(case aR=>exact Kd.C_below HR.out HB.out);(case aB=>exact HB.out);(case aF=>exact fun _ _=>trivial);(case aO=>exact HO.out);(case aS=>exact below_size HB.out);(case aL=>have:=HL.out;simp only [List.length_nil];omega);intro v2 w2 ho hb hg hat;clear HB HO;have HB:=Aside0.mk hb;have HO:=Aside0.mk ho;clear ho hb hg hat))
  go_ret
  exact ⟨_,rfl,HO.out,HB.out⟩

/-! ### impl_SubGet: function 19 -/
/-- what the first binding of a variable says; none, if there is none -/
def impl_SubGet.f (l0:List (S30)) (a1:Int):Option (List (S46)):=match Cat.get l0 a1 with
 | none=>some []
 | some t=>slices_Clone_TrmCell.f t
def varP (v:Int):Unit→Cat.Bind→Option (Bool × Unit):=fun _ x=>some (x.f0 == v,())
theorem firstS_get (v:Int):∀ (l:List Cat.Bind) (i:Nat),∃ r,firstS (varP v) () l i=some (r,())∧((Cat.get l v=none∧r = -1)∨∃ j,∃ h:j<l.length,r=((i+j:Nat):Int)∧Cat.get l v=some (l[j]).f1)
 | [],i=>⟨-1,rfl,.inl ⟨rfl,rfl⟩⟩
 | x :: l,i=>by
  by_cases hx:x.f0=v
  ·refine ⟨(i:Int),?_,.inr ⟨0,by simp,by simp,?_⟩⟩
   ·rw [firstS,varP];simp [hx]
   ·unfold Cat.get;rw [List.find?_cons];simp [hx]
  ·obtain ⟨r,h1,h2⟩:=firstS_get v l (i+1)
   have hb:(x.f0 == v)=false:=by simpa using hx
   refine ⟨r,?_,?_⟩
   ·rw [firstS,varP];simp only [Option.bind_some];rw [if_neg (by rw [hb];simp)];exact h1
   ·have e:Cat.get (x :: l) v=Cat.get l v:=by unfold Cat.get;rw [List.find?_cons,hb]
    rw [e]
    rcases h2 with h|⟨j,hj,h3,h4⟩
    ·exact .inl h
    ·exact .inr ⟨j+1,by simpa using hj,by rw [h3];congr 1;omega,h4⟩
set_option maxHeartbeats 4000000 in
theorem subget_pred (B:Nat) (v:Int) (x:Cat.Bind) (A:Option Addr) (c:Nat) (W:World) (hc:W.cell? ⟨B,0,none⟩=some (.int .i64 v)) (hB:B<W.heap.size) :
  Calls Tryd.prog 54 #[.agg #[.int .i64 x.f0,.slice A x.f1.length c],.pointer (some ⟨B,0,none⟩)] W fun e w'=>e = .returned (.bool (x.f0 == v))∧Below W.heap.size W w':=by
 go_enter Tryd.func54,Tryd.ntmps54
 go_wp2
 go_ret
 exact ⟨rfl,below_alloc (Below.refl _ _) _⟩
set_option maxHeartbeats 8000000 in
set_option maxRecDepth 100000 in
theorem impl_SubGet.calls (A0:Option Addr) (c0:Nat) (l0:List (S30)) (a1:Int) (r:List (S46)) (w:World) (hr0:Kd.C k30 w A0 l0.length l0) (hc0:l0.length≤c0) (h:impl_SubGet.f l0 a1=some r) :
  Calls Tryd.prog 19 #[.slice A0 l0.length c0,.int .i64 a1] w fun e w'=>∃ v0_:Value,e = .returned (v0_)∧Kd.R k46 46 w' w.heap.size (fun _=>True) v0_ r∧Below w.heap.size w w':=by
 obtain ⟨ri,hri,hcase⟩:=firstS_get a1 l0 0
 have HR:=Aside0.mk hr0
 have HH:=Aside0.mk h
 have HF:=Aside0.mk hri
 have HJ0:=Aside0.mk (show (w.alloc (.cells #[.int .i64 a1] 3)).cell? ⟨w.heap.size,0,none⟩=some (.int .i64 a1) by simp [go_sem])
 have HB0:=Aside0.mk ((Below.refl w.heap.size w).alloc (Nat.le_refl _) (.cells #[.int .i64 a1] 3))
 have HP:=Aside0.mk (show PredB 54 #[.pointer (some ⟨w.heap.size,0,none⟩)] none (varP a1) (fun _ W=>W.cell? ⟨w.heap.size,0,none⟩=some (.int .i64 a1)) (w.alloc (.cells #[.int .i64 a1] 3)) from by
  intro s s' x b W A c hp hg hJ hl hC
  obtain ⟨rfl,rfl⟩:=Prod.mk.inj (Option.some.inj hp)
  have hlt:=World.block_lt_of_cell? W _ hJ
  refine (subget_pred w.heap.size a1 x A c W hJ hlt).mono ?_
  rintro e w' ⟨rfl,hb⟩
  exact ⟨rfl,(hb.cell hlt).trans hJ,grown_below hb none⟩)
 have HIX:=Aside0.mk (indexFunc_binds 54 #[.pointer (some ⟨w.heap.size,0,none⟩)] none (varP a1) _ (enters_ Tryd.func54 (by kernel_rfl) (by kernel_rfl)) A0 c0 l0 _ (fun W hg=>Kd.C_below HR.out (HB0.out.trans ((below_grown hg).mono HB0.out.size))) HP.out () () ri HF.out HJ0.out)
 clear hr0 h hri HP HJ0
 rcases hcase with ⟨hn,rfl⟩|⟨j,hj,rfl,hs⟩
 ·have HN:=Aside0.mk hn
  clear hn
  go_enter Tryd.func19,Tryd.ntmps19
  go_wp2_with (go_at_call 53;(with_reducible refine HIX.out.mono ?_);rintro e w1 ⟨rfl,_,hg1⟩;have HB1:=Aside0.mk (HB0.out.trans ((below_grown hg1).mono HB0.out.size));clear hg1)
  go_ret
  have h1:=HH.out
  unfold impl_SubGet.f at h1
  rw [HN.out] at h1
  obtain rfl:=Option.some.inj h1
  exact ⟨_,rfl,Kd.R_nil _ _ _ _ _,HB1.out⟩
 ·have HN:=Aside0.mk hs
  have HCL:Aside0 (slices_Clone_TrmCell.f (l0[j]).f1=some r):=⟨by
   have h1:=HH.out
   unfold impl_SubGet.f at h1
   rw [HN.out] at h1
   exact h1⟩
  obtain ⟨ad,A1,c1,e1,hx0,hx1,hl1,hC1⟩:=at_T30 HR.out (j:Int) (by omega) (by omega)
  cases e1
  rw [Int.toNat_natCast] at hx0 hx1
  have ey:rd_T30 l0 (j:Int)=l0[j]:=by simp [rd_T30,List.getD,hj]
  rw [ey] at hx0 hx1 hl1 hC1
  have hm:l0.length≤9223372036854775807:=HR.out.2.1
  generalize l0[j]=y at hx0 hx1 hl1 hC1 HCL HN
  have HX1:=Aside0.mk hx1
  have HL1:=Aside0.mk hl1
  have HC1:=Aside0.mk hC1
  have hjz:(j:Int)<(l0.length:Int):=by omega
  have hj0:¬ (j:Int)<0:=by omega
  have had:=World.block_lt_of_cell? w _ hx0
  rw [add_block] at had
  rw [Nat.zero_add] at HIX
  clear hs ey hl1 hC1 hx0 hx1 HH
  go_enter Tryd.func19,Tryd.ntmps19
  go_wp2_with (first
   | (go_at_call 53;(with_reducible refine HIX.out.mono ?_);rintro e w1 ⟨rfl,_,hg1⟩;have HB1:=Aside0.mk (HB0.out.trans ((below_grown hg1).mono HB0.out.size));have hx3:=(HB1.out.cell (World.block_lt_of_cell? w _ HX1.out)).trans HX1.out;clear hg1)
   | (go_at_call 55;(with_reducible refine (slices_Clone_TrmCell.calls A1 c1 y.f1 r _ (Kd.C_below HC1.out HB1.out) HL1.out HCL.out).mono ?_);rintro e w2 ⟨v2,rfl,ho2,hb2⟩;have HO2:=Aside0.mk ho2;have HB2:=Aside0.mk (HB1.out.trans (hb2.mono HB1.out.size));have hz2:=HB1.out.size;clear ho2 hb2))
  go_ret
  exact ⟨_,rfl,Kd.R_lower HO2.out hz2,HB2.out⟩

/-! ### impl_in: function 61 -/
def impl_in.f (a0:Int) (a1:Int) (a2:Int):Option (Bool):=if a0≥a1 then (some (decide (a0≤a2))) else (some false)
set_option maxHeartbeats 8000000 in
set_option maxRecDepth 100000 in
theorem impl_in.calls (a0:Int) (a1:Int) (a2:Int) (r:Bool) (w:World) (h:impl_in.f a0 a1 a2=some r) :
  Calls Tryd.prog 61 #[.int .i64 a0,.int .i64 a1,.int .i64 a2] w fun e w'=>e = .returned (.bool r)∧Drawn0 w w':=by
 have H:(if a0≥a1 then (some (decide (a0≤a2))) else (some false))=some r:=h
 clear h
 by_cases c4:a0≥a1
 ·rw [if_pos c4] at H
  have c4b0:decide (a1≤a0)=true:=decide_eq_true c4
  clear c4
  obtain rfl:=Option.some.inj H
  go_enter Tryd.func61,Tryd.ntmps61
  go_wp2
  go_ret
  exact ⟨qz9,qz24⟩
 ·rw [if_neg c4] at H
  have c4b0:decide (a1≤a0)=false:=decide_eq_false c4
  clear c4
  obtain rfl:=Option.some.inj H
  go_enter Tryd.func61,Tryd.ntmps61
  go_wp2
  go_ret
  exact ⟨qz9,qz24⟩

/-! ### strings_Trim: function 104 -/
/-- strings.Trim at an ASCII cutset: the shelf's. -/
def strings_Trim.f (a0:ByteArray) (a1:ByteArray):Option (ByteArray):=if a0.size≤9223372036854775807 then (if a1.size<4294967281 then (if a1.data.toList.all (fun b=>decide (b.toNat<128)) then some (⟨(Lib.trimS a0.data.toList a1.data.toList).toArray⟩:ByteArray) else none) else none) else none
theorem strings_Trim.calls (a0:ByteArray) (a1:ByteArray) (r:ByteArray) (w:World) (h:strings_Trim.f a0 a1=some r) :
  Calls Tryd.prog 104 #[.string a0,.string a1] w fun e w'=>e = .returned (.string r)∧Below w.heap.size w w':=by
 unfold strings_Trim.f at h
 by_cases h1:a0.size≤9223372036854775807
 case neg=>rw [if_neg h1] at h;cases h
 rw [if_pos h1] at h
 by_cases h2:a1.size<4294967281
 case neg=>rw [if_neg h2] at h;cases h
 rw [if_pos h2] at h
 by_cases h3:a1.data.toList.all (fun b=>decide (b.toNat<128))=true
 case neg=>rw [if_neg h3] at h;cases h
 rw [if_pos h3] at h
 obtain rfl:=Option.some.inj h
 refine Tryd.trim_set a0 a1 w h1 h2 ?_
 intro j b hj
 have:=List.all_eq_true.1 h3 b (List.mem_of_getElem? hj)
 simpa using this

/-! ### impl_nameOk: function 97 -/
def impl_nameOk.f (a0:ByteArray):Option (Bool):=(impl_in.f (a0.size:Int) 1 8).bind fun t103=>(if t103=true then ((strings_Trim.f a0 (⟨#[97,98,99,100,101,102,103,104,105,106,107,108,109,110,111,112,113,114,115,116,117,118,119,120,121,122]⟩:ByteArray)).bind fun t104=>(if t104.toList=([]:List UInt8) then (some (a0.toList != ([97,110,100]:List UInt8))) else (some false))) else (some false))
set_option maxHeartbeats 8000000 in
set_option maxRecDepth 100000 in
theorem impl_nameOk.calls (a0:ByteArray) (r:Bool) (w:World) (h:impl_nameOk.f a0=some r) :
  Calls Tryd.prog 97 #[.string a0] w fun e w'=>e = .returned (.bool r)∧Below w.heap.size w w':=by
 have HB:=Aside0.mk (Below.refl w.heap.size w)
 have H:((impl_in.f (a0.size:Int) 1 8).bind fun t103=>(if t103=true then ((strings_Trim.f a0 (⟨#[97,98,99,100,101,102,103,104,105,106,107,108,109,110,111,112,113,114,115,116,117,118,119,120,121,122]⟩:ByteArray)).bind fun t104=>(if t104.toList=([]:List UInt8) then (some (a0.toList != ([97,110,100]:List UInt8))) else (some false))) else (some false)))=some r:=h
 clear h
 replace H:=Option.bind_eq_some_iff.mp H
 obtain ⟨t103,A20,H⟩:=H
 try dsimp only at H
 have A2:=Aside0.mk A20
 clear A20
 by_cases c3:t103=true
 ·subst c3
  have H1:((strings_Trim.f a0 (⟨#[97,98,99,100,101,102,103,104,105,106,107,108,109,110,111,112,113,114,115,116,117,118,119,120,121,122]⟩:ByteArray)).bind fun t104=>(if t104.toList=([]:List UInt8) then (some (a0.toList != ([97,110,100]:List UInt8))) else (some false)))=some r:=qz34
  clear H
  have H:=H1
  clear H1
  replace H:=Option.bind_eq_some_iff.mp H
  obtain ⟨t104,A40,H⟩:=H
  try dsimp only at H
  have A4:=Aside0.mk A40
  clear A40
  by_cases c5:t104.toList=([]:List UInt8)
  ·rw [if_pos c5] at H
   have c5b0:(t104.toList == ([]:List UInt8))=true:=beq_iff_eq.mpr c5
   have c5b1:(t104.toList != ([]:List UInt8))=false:=bne_eq_false_iff_eq.mpr c5
   clear c5
   obtain rfl:=Option.some.inj H
   go_enter Tryd.func97,Tryd.ntmps97
   go_wp2_with (first|(go_at_call 61;(with_reducible refine (impl_in.calls (a0.size:Int) 1 8 true _ A2.out).mono ?_);rintro e w' ⟨rfl,⟨nd,rfl⟩⟩)|(go_at_call 104;(with_reducible refine (strings_Trim.calls a0 (⟨#[97,98,99,100,101,102,103,104,105,106,107,108,109,110,111,112,113,114,115,116,117,118,119,120,121,122]⟩:ByteArray) t104 _ A4.out).mono ?_);rintro e w6 ⟨rfl,hb⟩;have n0_:=Aside0.mk (below_step qz4 hb);clear HB;have HB:=n0_;clear n0_;(try clear hb);(try clear hb2);(try clear hk);(try clear hi)))
   go_ret
   exact ⟨qz7,qz5⟩
  ·rw [if_neg c5] at H
   have c5b0:(t104.toList == ([]:List UInt8))=false:=beq_eq_false_iff_ne.mpr c5
   have c5b1:(t104.toList != ([]:List UInt8))=true:=bne_iff_ne.mpr c5
   obtain rfl:=Option.some.inj H
   go_enter Tryd.func97,Tryd.ntmps97
   go_wp2_with (first|(go_at_call 61;(with_reducible refine (impl_in.calls (a0.size:Int) 1 8 true _ A2.out).mono ?_);rintro e w' ⟨rfl,⟨nd,rfl⟩⟩)|(go_at_call 104;(with_reducible refine (strings_Trim.calls a0 (⟨#[97,98,99,100,101,102,103,104,105,106,107,108,109,110,111,112,113,114,115,116,117,118,119,120,121,122]⟩:ByteArray) t104 _ A4.out).mono ?_);rintro e w7 ⟨rfl,hb⟩;have n0_:=Aside0.mk (below_step qz4 hb);clear HB;have HB:=n0_;clear n0_;(try clear hb);(try clear hb2);(try clear hk);(try clear hi)))
   go_ret
   exact ⟨qz7,qz5⟩
 ·replace c3:=Bool.eq_false_iff.mpr c3
  subst c3
  have H1:(some false)=some r:=qz21
  clear H
  have H:=H1
  clear H1
  obtain rfl:=Option.some.inj H
  go_enter Tryd.func97,Tryd.ntmps97
  go_wp2_with (first|(go_at_call 61;(with_reducible refine (impl_in.calls (a0.size:Int) 1 8 false _ A2.out).mono ?_);rintro e w' ⟨rfl,⟨nd,rfl⟩⟩))
  go_ret
  exact ⟨qz7,qz5⟩

/-! ### impl_TrmCell_ok: function 79 -/
def impl_TrmCell_ok.f (a0_0:Int) (a0_1:Int) (a0_2:ByteArray):Option (Bool):=if a0_0=1 then ((impl_in.f a0_1 0 99999).bind fun t106=>(if t106=true then (some (a0_2.toList == ([]:List UInt8))) else (some false))) else (if a0_0=2 then ((impl_in.f a0_1 (-9999) 9999).bind fun t107=>(if t107=true then (some (a0_2.toList == ([]:List UInt8))) else (some false))) else (if a0_0=3 then ((impl_in.f a0_1 0 3).bind fun t108=>(if t108=true then ((impl_nameOk.f a0_2).bind fun t109=>(some t109)) else (some false))) else (some false)))
set_option maxHeartbeats 8000000 in
set_option maxRecDepth 100000 in
theorem impl_TrmCell_ok.calls (a0_0:Int) (a0_1:Int) (a0_2:ByteArray) (r:Bool) (w:World) (h:impl_TrmCell_ok.f a0_0 a0_1 a0_2=some r) :
  Calls Tryd.prog 79 #[.agg #[.int .i64 a0_0,.int .i64 a0_1,.string a0_2]] w fun e w'=>e = .returned (.bool r)∧Below w.heap.size w w':=by
 have hu46:=Tryd.underlying46
 have HB:=Aside0.mk (Below.refl w.heap.size w)
 have H:(if a0_0=1 then ((impl_in.f a0_1 0 99999).bind fun t106=>(if t106=true then (some (a0_2.toList == ([]:List UInt8))) else (some false))) else (if a0_0=2 then ((impl_in.f a0_1 (-9999) 9999).bind fun t107=>(if t107=true then (some (a0_2.toList == ([]:List UInt8))) else (some false))) else (if a0_0=3 then ((impl_in.f a0_1 0 3).bind fun t108=>(if t108=true then ((impl_nameOk.f a0_2).bind fun t109=>(some t109)) else (some false))) else (some false))))=some r:=h
 clear h
 by_cases c2:a0_0=1
 ·rw [if_pos c2] at H
  have c2b0:(a0_0 == 1)=true:=beq_iff_eq.mpr c2
  have c2b1:(a0_0 != 1)=false:=bne_eq_false_iff_eq.mpr c2
  clear c2
  replace H:=Option.bind_eq_some_iff.mp H
  obtain ⟨t106,A30,H⟩:=H
  try dsimp only at H
  have A3:=Aside0.mk A30
  clear A30
  by_cases c4:t106=true
  ·subst c4
   have H1:(some (a0_2.toList == ([]:List UInt8)))=some r:=qz34
   clear H
   have H:=H1
   clear H1
   obtain rfl:=Option.some.inj H
   go_enter Tryd.func79,Tryd.ntmps79
   go_wp2_with (first|((with_reducible refine gate_dst (N:=1) rfl ?_);refine box_event ?hg (N:=1) ?hd (cs:=#[.int .i64 a0_0,.int .i64 a0_1,.string a0_2]) (t:=46) ?hr ?_;(case hd=>rfl);(case hg=>rfl);(case hr=>first|(go_simp;done)|(go_simp;rfl));intro gb105 hg w5 hbox hb;have n0_:=Aside0.mk (below_step qz4 hb);have n1_:=Aside0.mk (hbox);have n2_:=Aside0.mk ((by rw [hg];exact (below_size qz4):w.heap.size≤gb105));have n3_:=Aside0.mk ((by rw [hg];exact (below_size qz4):w.heap.size≤gb105));clear HB;have HB:=n0_;have BK105:=n1_;have GW105:=n2_;have GE105:=n3_;clear n0_ n1_ n2_ n3_ hb hbox hg;have hcz6_0:w5.cell? ⟨gb105,0,none⟩=some (.int .i64 a0_0):=(blk_cell BK105.out 0).trans rfl;have hcz6_1:w5.cell? ⟨gb105,1,none⟩=some (.int .i64 a0_1):=(blk_cell BK105.out 1).trans rfl;have hcz6_2:w5.cell? ⟨gb105,2,none⟩=some (.string a0_2):=(blk_cell BK105.out 2).trans rfl;have hfz6_0:=blk_frozen BK105.out 0;have hfz6_1:=blk_frozen BK105.out 1;have hfz6_2:=blk_frozen BK105.out 2)|(go_at_call 61;(with_reducible refine (impl_in.calls a0_1 0 99999 true _ A3.out).mono ?_);rintro e w' ⟨rfl,⟨nd,rfl⟩⟩))
   go_ret
   exact ⟨qz7,qz27⟩
  ·replace c4:=Bool.eq_false_iff.mpr c4
   subst c4
   have H1:(some false)=some r:=qz21
   clear H
   have H:=H1
   clear H1
   obtain rfl:=Option.some.inj H
   go_enter Tryd.func79,Tryd.ntmps79
   go_wp2_with (first|((with_reducible refine gate_dst (N:=1) rfl ?_);refine box_event ?hg (N:=1) ?hd (cs:=#[.int .i64 a0_0,.int .i64 a0_1,.string a0_2]) (t:=46) ?hr ?_;(case hd=>rfl);(case hg=>rfl);(case hr=>first|(go_simp;done)|(go_simp;rfl));intro gb105 hg w7 hbox hb;have n0_:=Aside0.mk (below_step qz4 hb);have n1_:=Aside0.mk (hbox);have n2_:=Aside0.mk ((by rw [hg];exact (below_size qz4):w.heap.size≤gb105));have n3_:=Aside0.mk ((by rw [hg];exact (below_size qz4):w.heap.size≤gb105));clear HB;have HB:=n0_;have BK105:=n1_;have GW105:=n2_;have GE105:=n3_;clear n0_ n1_ n2_ n3_ hb hbox hg;have hcz8_0:w7.cell? ⟨gb105,0,none⟩=some (.int .i64 a0_0):=(blk_cell BK105.out 0).trans rfl;have hcz8_1:w7.cell? ⟨gb105,1,none⟩=some (.int .i64 a0_1):=(blk_cell BK105.out 1).trans rfl;have hcz8_2:w7.cell? ⟨gb105,2,none⟩=some (.string a0_2):=(blk_cell BK105.out 2).trans rfl;have hfz8_0:=blk_frozen BK105.out 0;have hfz8_1:=blk_frozen BK105.out 1;have hfz8_2:=blk_frozen BK105.out 2)|(go_at_call 61;(with_reducible refine (impl_in.calls a0_1 0 99999 false _ A3.out).mono ?_);rintro e w' ⟨rfl,⟨nd,rfl⟩⟩))
   go_ret
   exact ⟨qz7,qz27⟩
 ·rw [if_neg c2] at H
  have c2b0:(a0_0 == 1)=false:=beq_eq_false_iff_ne.mpr c2
  have c2b1:(a0_0 != 1)=true:=bne_iff_ne.mpr c2
  by_cases c9:a0_0=2
  ·rw [if_pos c9] at H
   have c9b0:(a0_0 == 2)=true:=beq_iff_eq.mpr c9
   have c9b1:(a0_0 != 2)=false:=bne_eq_false_iff_eq.mpr c9
   clear c9
   replace H:=Option.bind_eq_some_iff.mp H
   obtain ⟨t107,A100,H⟩:=H
   try dsimp only at H
   have A10:=Aside0.mk A100
   clear A100
   by_cases c11:t107=true
   ·subst c11
    have H1:(some (a0_2.toList == ([]:List UInt8)))=some r:=qz34
    clear H
    have H:=H1
    clear H1
    obtain rfl:=Option.some.inj H
    go_enter Tryd.func79,Tryd.ntmps79
    go_wp2_with (first|((with_reducible refine gate_dst (N:=1) rfl ?_);refine box_event ?hg (N:=1) ?hd (cs:=#[.int .i64 a0_0,.int .i64 a0_1,.string a0_2]) (t:=46) ?hr ?_;(case hd=>rfl);(case hg=>rfl);(case hr=>first|(go_simp;done)|(go_simp;rfl));intro gb105 hg w12 hbox hb;have n0_:=Aside0.mk (below_step qz4 hb);have n1_:=Aside0.mk (hbox);have n2_:=Aside0.mk ((by rw [hg];exact (below_size qz4):w.heap.size≤gb105));have n3_:=Aside0.mk ((by rw [hg];exact (below_size qz4):w.heap.size≤gb105));clear HB;have HB:=n0_;have BK105:=n1_;have GW105:=n2_;have GE105:=n3_;clear n0_ n1_ n2_ n3_ hb hbox hg;have hcz13_0:w12.cell? ⟨gb105,0,none⟩=some (.int .i64 a0_0):=(blk_cell BK105.out 0).trans rfl;have hcz13_1:w12.cell? ⟨gb105,1,none⟩=some (.int .i64 a0_1):=(blk_cell BK105.out 1).trans rfl;have hcz13_2:w12.cell? ⟨gb105,2,none⟩=some (.string a0_2):=(blk_cell BK105.out 2).trans rfl;have hfz13_0:=blk_frozen BK105.out 0;have hfz13_1:=blk_frozen BK105.out 1;have hfz13_2:=blk_frozen BK105.out 2)|(go_at_call 61;(with_reducible refine (impl_in.calls a0_1 (-9999) 9999 true _ A10.out).mono ?_);rintro e w' ⟨rfl,⟨nd,rfl⟩⟩))
    go_ret
    exact ⟨qz7,qz27⟩
   ·replace c11:=Bool.eq_false_iff.mpr c11
    subst c11
    have H1:(some false)=some r:=qz21
    clear H
    have H:=H1
    clear H1
    obtain rfl:=Option.some.inj H
    go_enter Tryd.func79,Tryd.ntmps79
    go_wp2_with (first|((with_reducible refine gate_dst (N:=1) rfl ?_);refine box_event ?hg (N:=1) ?hd (cs:=#[.int .i64 a0_0,.int .i64 a0_1,.string a0_2]) (t:=46) ?hr ?_;(case hd=>rfl);(case hg=>rfl);(case hr=>first|(go_simp;done)|(go_simp;rfl));intro gb105 hg w14 hbox hb;have n0_:=Aside0.mk (below_step qz4 hb);have n1_:=Aside0.mk (hbox);have n2_:=Aside0.mk ((by rw [hg];exact (below_size qz4):w.heap.size≤gb105));have n3_:=Aside0.mk ((by rw [hg];exact (below_size qz4):w.heap.size≤gb105));clear HB;have HB:=n0_;have BK105:=n1_;have GW105:=n2_;have GE105:=n3_;clear n0_ n1_ n2_ n3_ hb hbox hg;have hcz15_0:w14.cell? ⟨gb105,0,none⟩=some (.int .i64 a0_0):=(blk_cell BK105.out 0).trans rfl;have hcz15_1:w14.cell? ⟨gb105,1,none⟩=some (.int .i64 a0_1):=(blk_cell BK105.out 1).trans rfl;have hcz15_2:w14.cell? ⟨gb105,2,none⟩=some (.string a0_2):=(blk_cell BK105.out 2).trans rfl;have hfz15_0:=blk_frozen BK105.out 0;have hfz15_1:=blk_frozen BK105.out 1;have hfz15_2:=blk_frozen BK105.out 2)|(go_at_call 61;(with_reducible refine (impl_in.calls a0_1 (-9999) 9999 false _ A10.out).mono ?_);rintro e w' ⟨rfl,⟨nd,rfl⟩⟩))
    go_ret
    exact ⟨qz7,qz27⟩
  ·rw [if_neg c9] at H
   have c9b0:(a0_0 == 2)=false:=beq_eq_false_iff_ne.mpr c9
   have c9b1:(a0_0 != 2)=true:=bne_iff_ne.mpr c9
   by_cases c16:a0_0=3
   ·rw [if_pos c16] at H
    have c16b0:(a0_0 == 3)=true:=beq_iff_eq.mpr c16
    have c16b1:(a0_0 != 3)=false:=bne_eq_false_iff_eq.mpr c16
    clear c16
    replace H:=Option.bind_eq_some_iff.mp H
    obtain ⟨t108,A170,H⟩:=H
    try dsimp only at H
    have A17:=Aside0.mk A170
    clear A170
    by_cases c18:t108=true
    ·subst c18
     have H1:((impl_nameOk.f a0_2).bind fun t109=>(some t109))=some r:=qz34
     clear H
     have H:=H1
     clear H1
     replace H:=Option.bind_eq_some_iff.mp H
     obtain ⟨t109,A190,H⟩:=H
     try dsimp only at H
     have A19:=Aside0.mk A190
     clear A190
     obtain rfl:=Option.some.inj H
     go_enter Tryd.func79,Tryd.ntmps79
     go_wp2_with (first|((with_reducible refine gate_dst (N:=1) rfl ?_);refine box_event ?hg (N:=1) ?hd (cs:=#[.int .i64 a0_0,.int .i64 a0_1,.string a0_2]) (t:=46) ?hr ?_;(case hd=>rfl);(case hg=>rfl);(case hr=>first|(go_simp;done)|(go_simp;rfl));intro gb105 hg w20 hbox hb;have n0_:=Aside0.mk (below_step qz4 hb);have n1_:=Aside0.mk (hbox);have n2_:=Aside0.mk ((by rw [hg];exact (below_size qz4):w.heap.size≤gb105));have n3_:=Aside0.mk ((by rw [hg];exact (below_size qz4):w.heap.size≤gb105));clear HB;have HB:=n0_;have BK105:=n1_;have GW105:=n2_;have GE105:=n3_;clear n0_ n1_ n2_ n3_ hb hbox hg;have hcz21_0:w20.cell? ⟨gb105,0,none⟩=some (.int .i64 a0_0):=(blk_cell BK105.out 0).trans rfl;have hcz21_1:w20.cell? ⟨gb105,1,none⟩=some (.int .i64 a0_1):=(blk_cell BK105.out 1).trans rfl;have hcz21_2:w20.cell? ⟨gb105,2,none⟩=some (.string a0_2):=(blk_cell BK105.out 2).trans rfl;have hfz21_0:=blk_frozen BK105.out 0;have hfz21_1:=blk_frozen BK105.out 1;have hfz21_2:=blk_frozen BK105.out 2)|(go_at_call 61;(with_reducible refine (impl_in.calls a0_1 0 3 true _ A17.out).mono ?_);rintro e w' ⟨rfl,⟨nd,rfl⟩⟩)|(go_at_call 97;(with_reducible refine (impl_nameOk.calls a0_2 t109 _ A19.out).mono ?_);rintro e w22 ⟨rfl,hb⟩;have n0_:=Aside0.mk (blk_below (g:=gb105) (o:=.cells #[.int .i64 a0_0,.int .i64 a0_1,.string a0_2] 46 (0,0)) (by (with_reducible repeat (first|refine blk_drewN ?_ _|refine blk_drew ?_|refine blk_alloc ?_ _));exact BK105.out) hb);have n1_:=Aside0.mk (below_step qz27 hb);clear BK105 HB;have BK105:=n0_;have HB:=n1_;clear n0_ n1_;(try clear hb);(try clear hb2);(try clear hk);(try clear hi)))
     go_ret
     exact ⟨qz7,qz27⟩
    ·replace c18:=Bool.eq_false_iff.mpr c18
     subst c18
     have H1:(some false)=some r:=qz21
     clear H
     have H:=H1
     clear H1
     obtain rfl:=Option.some.inj H
     go_enter Tryd.func79,Tryd.ntmps79
     go_wp2_with (first|((with_reducible refine gate_dst (N:=1) rfl ?_);refine box_event ?hg (N:=1) ?hd (cs:=#[.int .i64 a0_0,.int .i64 a0_1,.string a0_2]) (t:=46) ?hr ?_;(case hd=>rfl);(case hg=>rfl);(case hr=>first|(go_simp;done)|(go_simp;rfl));intro gb105 hg w23 hbox hb;have n0_:=Aside0.mk (below_step qz4 hb);have n1_:=Aside0.mk (hbox);have n2_:=Aside0.mk ((by rw [hg];exact (below_size qz4):w.heap.size≤gb105));have n3_:=Aside0.mk ((by rw [hg];exact (below_size qz4):w.heap.size≤gb105));clear HB;have HB:=n0_;have BK105:=n1_;have GW105:=n2_;have GE105:=n3_;clear n0_ n1_ n2_ n3_ hb hbox hg;have hcz24_0:w23.cell? ⟨gb105,0,none⟩=some (.int .i64 a0_0):=(blk_cell BK105.out 0).trans rfl;have hcz24_1:w23.cell? ⟨gb105,1,none⟩=some (.int .i64 a0_1):=(blk_cell BK105.out 1).trans rfl;have hcz24_2:w23.cell? ⟨gb105,2,none⟩=some (.string a0_2):=(blk_cell BK105.out 2).trans rfl;have hfz24_0:=blk_frozen BK105.out 0;have hfz24_1:=blk_frozen BK105.out 1;have hfz24_2:=blk_frozen BK105.out 2)|(go_at_call 61;(with_reducible refine (impl_in.calls a0_1 0 3 false _ A17.out).mono ?_);rintro e w' ⟨rfl,⟨nd,rfl⟩⟩))
     go_ret
     exact ⟨qz7,qz27⟩
   ·rw [if_neg c16] at H
    have c16b0:(a0_0 == 3)=false:=beq_eq_false_iff_ne.mpr c16
    have c16b1:(a0_0 != 3)=true:=bne_iff_ne.mpr c16
    obtain rfl:=Option.some.inj H
    go_enter Tryd.func79,Tryd.ntmps79
    go_wp2_with (first|((with_reducible refine gate_dst (N:=1) rfl ?_);refine box_event ?hg (N:=1) ?hd (cs:=#[.int .i64 a0_0,.int .i64 a0_1,.string a0_2]) (t:=46) ?hr ?_;(case hd=>rfl);(case hg=>rfl);(case hr=>first|(go_simp;done)|(go_simp;rfl));intro gb105 hg w25 hbox hb;have n0_:=Aside0.mk (below_step qz4 hb);have n1_:=Aside0.mk (hbox);have n2_:=Aside0.mk ((by rw [hg];exact (below_size qz4):w.heap.size≤gb105));have n3_:=Aside0.mk ((by rw [hg];exact (below_size qz4):w.heap.size≤gb105));clear HB;have HB:=n0_;have BK105:=n1_;have GW105:=n2_;have GE105:=n3_;clear n0_ n1_ n2_ n3_ hb hbox hg;have hcz26_0:w25.cell? ⟨gb105,0,none⟩=some (.int .i64 a0_0):=(blk_cell BK105.out 0).trans rfl;have hcz26_1:w25.cell? ⟨gb105,1,none⟩=some (.int .i64 a0_1):=(blk_cell BK105.out 1).trans rfl;have hcz26_2:w25.cell? ⟨gb105,2,none⟩=some (.string a0_2):=(blk_cell BK105.out 2).trans rfl;have hfz26_0:=blk_frozen BK105.out 0;have hfz26_1:=blk_frozen BK105.out 1;have hfz26_2:=blk_frozen BK105.out 2))
    go_ret
    exact ⟨qz7,qz27⟩

/-! ### impl_TrmCell_arity: function 84 -/
def impl_TrmCell_arity.f (a0_0:Int) (a0_1:Int) (a0_2:ByteArray):Option (Int):=if a0_0=3 then (some a0_1) else (some 0)
set_option maxHeartbeats 8000000 in
set_option maxRecDepth 100000 in
theorem impl_TrmCell_arity.calls (a0_0:Int) (a0_1:Int) (a0_2:ByteArray) (r:Int) (w:World) (h:impl_TrmCell_arity.f a0_0 a0_1 a0_2=some r) :
  Calls Tryd.prog 84 #[.agg #[.int .i64 a0_0,.int .i64 a0_1,.string a0_2]] w fun e w'=>e = .returned (.int .i64 r)∧Below w.heap.size w w':=by
 have hu46:=Tryd.underlying46
 have HB:=Aside0.mk (Below.refl w.heap.size w)
 have H:(if a0_0=3 then (some a0_1) else (some 0))=some r:=h
 clear h
 by_cases c2:a0_0=3
 ·rw [if_pos c2] at H
  have c2b0:(a0_0 == 3)=true:=beq_iff_eq.mpr c2
  have c2b1:(a0_0 != 3)=false:=bne_eq_false_iff_eq.mpr c2
  clear c2
  obtain rfl:=Option.some.inj H
  go_enter Tryd.func84,Tryd.ntmps84
  go_wp2_with (first|((with_reducible refine gate_dst (N:=1) rfl ?_);refine box_event ?hg (N:=1) ?hd (cs:=#[.int .i64 a0_0,.int .i64 a0_1,.string a0_2]) (t:=46) ?hr ?_;(case hd=>rfl);(case hg=>rfl);(case hr=>first|(go_simp;done)|(go_simp;rfl));intro gb110 hg w3 hbox hb;have n0_:=Aside0.mk (below_step qz4 hb);have n1_:=Aside0.mk (hbox);have n2_:=Aside0.mk ((by rw [hg];exact (below_size qz4):w.heap.size≤gb110));have n3_:=Aside0.mk ((by rw [hg];exact (below_size qz4):w.heap.size≤gb110));clear HB;have HB:=n0_;have BK110:=n1_;have GW110:=n2_;have GE110:=n3_;clear n0_ n1_ n2_ n3_ hb hbox hg;have hcz4_0:w3.cell? ⟨gb110,0,none⟩=some (.int .i64 a0_0):=(blk_cell BK110.out 0).trans rfl;have hcz4_1:w3.cell? ⟨gb110,1,none⟩=some (.int .i64 a0_1):=(blk_cell BK110.out 1).trans rfl;have hcz4_2:w3.cell? ⟨gb110,2,none⟩=some (.string a0_2):=(blk_cell BK110.out 2).trans rfl;have hfz4_0:=blk_frozen BK110.out 0;have hfz4_1:=blk_frozen BK110.out 1;have hfz4_2:=blk_frozen BK110.out 2))
  go_ret
  exact ⟨qz7,qz83⟩
 ·rw [if_neg c2] at H
  have c2b0:(a0_0 == 3)=false:=beq_eq_false_iff_ne.mpr c2
  have c2b1:(a0_0 != 3)=true:=bne_iff_ne.mpr c2
  obtain rfl:=Option.some.inj H
  go_enter Tryd.func84,Tryd.ntmps84
  go_wp2_with (first|((with_reducible refine gate_dst (N:=1) rfl ?_);refine box_event ?hg (N:=1) ?hd (cs:=#[.int .i64 a0_0,.int .i64 a0_1,.string a0_2]) (t:=46) ?hr ?_;(case hd=>rfl);(case hg=>rfl);(case hr=>first|(go_simp;done)|(go_simp;rfl));intro gb110 hg w5 hbox hb;have n0_:=Aside0.mk (below_step qz4 hb);have n1_:=Aside0.mk (hbox);have n2_:=Aside0.mk ((by rw [hg];exact (below_size qz4):w.heap.size≤gb110));have n3_:=Aside0.mk ((by rw [hg];exact (below_size qz4):w.heap.size≤gb110));clear HB;have HB:=n0_;have BK110:=n1_;have GW110:=n2_;have GE110:=n3_;clear n0_ n1_ n2_ n3_ hb hbox hg;have hcz6_0:w5.cell? ⟨gb110,0,none⟩=some (.int .i64 a0_0):=(blk_cell BK110.out 0).trans rfl;have hcz6_1:w5.cell? ⟨gb110,1,none⟩=some (.int .i64 a0_1):=(blk_cell BK110.out 1).trans rfl;have hcz6_2:w5.cell? ⟨gb110,2,none⟩=some (.string a0_2):=(blk_cell BK110.out 2).trans rfl;have hfz6_0:=blk_frozen BK110.out 0;have hfz6_1:=blk_frozen BK110.out 1;have hfz6_2:=blk_frozen BK110.out 2))
  go_ret
  exact ⟨qz7,qz83⟩

/-! ### impl_size: function 81 -/
def impl_size.l0:Nat→List (S46)→Int→Int→Option (Int)
 | 0,_,_,_=>none
 | k+1,x0,x3,x4=>if x4<x3 then (if x4=(x0.length:Int) then (some (wrap64 ((x0.length:Int)+1))) else (if 0≤x4 then (if x4<(x0.length:Int) then ((impl_TrmCell_arity.f ((rd_T46 x0 x4).f0) ((rd_T46 x0 x4).f1) ((rd_T46 x0 x4).f2)).bind fun t112=>(impl_size.l0 k x0 (wrap64 (x3+t112)) (wrap64 (x4+1)))) else (none)) else (none))) else (some x3)
def impl_size.f (k:Nat) (l0:List (S46)):Option (Int):=impl_size.l0 k l0 1 0
set_option maxHeartbeats 8000000 in
set_option maxRecDepth 100000 in
theorem impl_size.calls (k:Nat) (A0:Option Addr) (c0:Nat) (l0:List (S46)) (r:Int) (w:World) (hr0:Kd.C k46 w A0 l0.length l0) (hc0:l0.length≤c0) (h:impl_size.f k l0=some r) :
  Calls Tryd.prog 81 #[.slice A0 l0.length c0] w fun e w'=>e = .returned (.int .i64 r)∧Below w.heap.size w w':=by
 have hu46:=Tryd.underlying46
 have HR0:=Aside0.mk hr0
 have HC0:=Aside0.mk hc0
 clear hr0 hc0
 have HB:=Aside0.mk (Below.refl w.heap.size w)
 have H:(impl_size.l0 k l0 1 0)=some r:=h
 clear h
 have H':=Aside0.mk H
 clear H
 go_enter Tryd.func81,Tryd.ntmps81
 go_wp2
 go_loopg [3,4] k (fun kq v3 v4 w'=>∃ (x3_1:Int) (x4_1:Int),v3 = .int .i64 x3_1∧v4 = .int .i64 x4_1∧Aside0 (impl_size.l0 kq l0 x3_1 x4_1=some r)∧Aside0 (kq≤k)∧Aside0 (Below w.heap.size w w'))
 case atStart=>exact ⟨(1),(0),qz9,qz9,H',⟨Nat.le_refl _⟩,⟨qz5⟩⟩
 case round=>
  clear H'
  obtain ⟨x3_1,x4_1,rfl,rfl,HA,HK1,HB⟩:=hrel
  cases gk with
  | zero=>exact absurd HA.out (by simp [impl_size.l0])
  | succ k1=>
   have H:=HA.out
   clear HA
   simp only [impl_size.l0] at H
   by_cases c2:x4_1<x3_1
   ·rw [if_pos c2] at H
    have c2b0:decide (x4_1<x3_1)=true:=decide_eq_true c2
    clear c2
    by_cases c3:x4_1=(l0.length:Int)
    ·rw [if_pos c3] at H
     have c3b0:(x4_1 == (l0.length:Int))=true:=beq_iff_eq.mpr c3
     have c3b1:(x4_1 != (l0.length:Int))=false:=bne_eq_false_iff_eq.mpr c3
     clear c3
     obtain rfl:=Option.some.inj H
     go_wp2
     go_ret
     exact ⟨qz7,qz5⟩
    ·rw [if_neg c3] at H
     have c3b0:(x4_1 == (l0.length:Int))=false:=beq_eq_false_iff_ne.mpr c3
     have c3b1:(x4_1 != (l0.length:Int))=true:=bne_iff_ne.mpr c3
     by_cases c4:0≤x4_1
     ·rw [if_pos c4] at H
      have c4b0:decide (0≤x4_1)=true:=decide_eq_true c4
      clear c4
      by_cases c5:x4_1<(l0.length:Int)
      ·rw [if_pos c5] at H
       have c5b0:decide (x4_1<(l0.length:Int))=true:=decide_eq_true c5
       clear c5
       replace H:=Option.bind_eq_some_iff.mp H
       obtain ⟨t112,A60,H⟩:=H
       try dsimp only at H
       have A6:=Aside0.mk A60
       clear A60
       have H':=Aside0.mk H
       clear H
       have p111:0≤(x4_1:Int):=of_decide_eq_true qz6
       have q111:x4_1<(l0.length:Int):=of_decide_eq_true qz6
       obtain ⟨ad111,e111,hx111_0,hx111_1,hx111_2⟩:=at_T46 HR0.out x4_1 p111 q111
       cases e111
       replace hx111_0:=(HB.out.cell (World.block_lt_of_cell? w _ hx111_0)).trans hx111_0
       replace hx111_1:=(HB.out.cell (World.block_lt_of_cell? w _ hx111_1)).trans hx111_1
       replace hx111_2:=(HB.out.cell (World.block_lt_of_cell? w _ hx111_2)).trans hx111_2
       replace p111:=eq_true p111
       replace q111:=eq_true q111
       go_wp2_with (first|(go_at_call 84;(with_reducible refine (impl_TrmCell_arity.calls ((rd_T46 l0 x4_1).f0) ((rd_T46 l0 x4_1).f1) ((rd_T46 l0 x4_1).f2) t112 _ A6.out).mono ?_);rintro e w7 ⟨rfl,hb⟩;have n0_:=Aside0.mk (below_step qz4 hb);clear HB;have HB:=n0_;clear n0_;(try clear hb);(try clear hb2);(try clear hk);(try clear hi)))
       go_roundg k1
       case measure=>have:=HK1.out;omega
       case rel=>exact ⟨(wrap64 (x3_1+t112)),(wrap64 (x4_1+1)),qz9,qz9,H',⟨by have:=HK1.out;omega⟩,⟨qz5⟩⟩
      ·rw [if_neg c5] at H
       exact absurd H (by simp)
     ·rw [if_neg c4] at H
      exact absurd H (by simp)
   ·rw [if_neg c2] at H
    have c2b0:decide (x4_1<x3_1)=false:=decide_eq_false c2
    clear c2
    obtain rfl:=Option.some.inj H
    go_wp2
    go_ret
    exact ⟨qz7,qz5⟩

end Go.Proofs.YtlaicnoikeieeaaDoor.P
