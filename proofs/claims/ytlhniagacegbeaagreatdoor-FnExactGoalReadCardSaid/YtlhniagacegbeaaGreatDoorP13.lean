/- Contracts of functions of the program: each as a Lean function, and that its call does what that says; printed by cprint.py (this session) over print.py of the kit. Conditions: the hypotheses of each theorem. -/
import Derived.Test.YtlhniagacegbeaaGreatDoorP0
import Derived.Test.YtlhniagacegbeaaGreatDoorP11
namespace Go.Proofs.YtlhniagacegbeaaGreatDoor.P
open Go.RowKit Go.Proofs.YtlhniagacegbeaaGreatDoorW.PrintWords Go.Proofs.YtlhniagacegbeaaGreatDoorW.PrintLast Go.Proofs.YtlhniagacegbeaaGreatDoorW.PrintMore
attribute [local go_sem] max2_int min2_int max_two min_two max_three min_three max_four min_four   -- for this text's walks alone
set_option linter.unusedVariables false
set_option linter.unusedSimpArgs false

/-! ### strings_Split: function 26 -/
/-- strings.Split at a part that is not empty: the shelf's. -/
def strings_Split.f (a0:ByteArray) (a1:ByteArray):Option (List ByteArray):=if a0.size<4294967281 then (if 1≤a1.size then some (Lib.splitB a1 0 (Lib.countB a0 a1) a0) else none) else none
theorem strings_Split.calls (a0:ByteArray) (a1:ByteArray) (r:List ByteArray) (w:World) (hM_:MaxT w) (h:strings_Split.f a0 a1=some r) :
  Calls Tryz.prog 26 #[.string a0,.string a1] w fun e w'=>∃ v0_:Value,e = .returned (v0_)∧Kd.R Kd.string 9 w' w.heap.size (fun _=>True) v0_ r∧Below w.heap.size w w':=by
 unfold strings_Split.f at h
 by_cases h1:a0.size<4294967281
 case neg=>rw [if_neg h1] at h;cases h
 rw [if_pos h1] at h
 by_cases h2:1≤a1.size
 case neg=>rw [if_neg h2] at h;cases h
 rw [if_pos h2] at h
 obtain rfl:=Option.some.inj h
 obtain ⟨m,hm⟩:=hM_
 refine (Tryz.split_all a0 a1 m w h1 hm h2).mono ?_
 rintro e w' ⟨rfl,rfl⟩
 have hl:=Lib.splitB_all a1 h2 0 _ a0 rfl
 have hc:=Lib.countB_le a1 h2 a0.size a0 (Nat.le_refl _)
 refine ⟨_,rfl,Kd.R_of_own ?_ (fun _ _=>trivial),below_alloc (Below.refl _ _) _⟩
 rw [← hl]
 refine ⟨by simp [encs],.inr ⟨w.heap.size,_,_,rfl,Nat.le_refl _,heap_alloc_new w _,Nat.le_refl _,?_,by simp,?_⟩⟩
 ·rw [hl];unfold maxLen;omega
 ·simp [encs]
  exact List.take_of_length_le (by simp)

/-! ### impl_while: function 78 -/
theorem tw_dw (p:UInt8→Bool) (l:List UInt8):l.takeWhile p=l.take (l.length - (l.dropWhile p).length)∧l.dropWhile p=l.drop (l.length - (l.dropWhile p).length):=by
 have h:=List.takeWhile_append_dropWhile (p:=p) (l:=l)
 have hl:(l.takeWhile p).length=l.length - (l.dropWhile p).length:=by
  have:=congrArg List.length h
  rw [List.length_append] at this
  omega
 rw [← hl]
 have h1:=List.take_left (l₁:=l.takeWhile p) (l₂:=l.dropWhile p)
 have h2:=List.drop_left (l₁:=l.takeWhile p) (l₂:=l.dropWhile p)
 rw [h] at h1 h2
 exact ⟨h1.symm,h2.symm⟩
set_option maxHeartbeats 4000000 in
set_option maxRecDepth 100000 in
/-- while: the longest beginning of bytes among some, and what is behind -/
theorem while_any (s bs:ByteArray) (p:UInt8→Bool) (hp:∀ b,bs.data.toList.contains b=p b) (hbs:bs.size<4294967281) (hascii:∀ (j:Nat) b,bs.data.toList[j]?=some b→b.toNat<128) (hs:s.size≤9223372036854775807) (W:World) :
  Calls Tryz.prog 78 #[.string s,.string bs] W fun e w'=>e = .returned (.tuple #[.string ⟨(s.data.toList.takeWhile p).toArray⟩,.string ⟨(s.data.toList.dropWhile p).toArray⟩])∧Below W.heap.size W w':=by
 have HC:=Aside0.mk (Tryz.trimLeft_set s bs W hbs hascii)
 have e:Lib.trimLeftS s.data.toList bs.data.toList=s.data.toList.dropWhile p:=by unfold Lib.trimLeftS;exact congrArg (fun q=>s.data.toList.dropWhile q) (funext hp)
 rw [e] at HC
 obtain ⟨h1,h2⟩:=tw_dw p s.data.toList
 have hle:(s.data.toList.dropWhile p).length≤s.size:=by rw [Lib.size_eq];exact (List.dropWhile_sublist _).length_le
 have hsz:=Lib.size_eq s
 obtain ⟨d,hd⟩:∃ d,d=s.data.toList.dropWhile p:=⟨_,rfl⟩
 rw [← hd] at h1 h2 hle HC ⊢
 rw [← hsz] at h1 h2
 have H1:=Aside0.mk h1
 have H2:=Aside0.mk h2
 clear hp hbs hascii e h1 h2 hsz hd
 go_enter Tryz.func78,Tryz.ntmps78
 go_wp2_with (go_at_call 102;(with_reducible refine HC.out.mono ?_);rintro e w1 ⟨rfl,hb1⟩;have HB1:=Aside0.mk hb1;clear hb1)
 have hlei:(d.length:Int)≤(s.size:Int):=by omega
 go_quiet (fail)
 go_wp2
 go_ret2
 have e1:s.extract 0 (s.size - d.length)=⟨(s.data.toList.takeWhile p).toArray⟩:=Cat.ba_ext (by rw [Lib.extract_data,List.drop_zero,Nat.sub_zero,H1.out])
 have e2:s.extract (s.size - d.length) s.size=⟨d.toArray⟩:=Cat.ba_ext (by rw [Lib.extract_to_end];exact H2.out.symm)
 exact ⟨by rw [e1,e2];rfl,pw_below_drewN HB1.out _⟩

/-! ### impl_read: function 53 -/
/-! ### Atoi, whatever it says of errors -/
def ErrV (g:Nat) (W:World):Prop:=∃ ev,W.cell? ⟨g,0,none⟩=some ev∧(ev = .nilIface∨∃ te pe,ev = .iface te pe)
def ErrT (W:World):Prop:=ErrV 3 W∧ErrV 4 W
theorem ErrV.below {g B:Nat} {W W':World} (h:ErrV g W) (hb:Below B W W') (hg:g<B):ErrV g W':=by
 obtain ⟨ev,h1,h2⟩:=h
 exact ⟨ev,(hb.cell (p:=⟨g,0,none⟩) hg).trans h1,h2⟩
theorem ErrV.lt {g:Nat} {W:World} (h:ErrV g W):g<W.heap.size:=by
 obtain ⟨ev,h1,h2⟩:=h
 exact World.block_lt_of_cell? W ⟨g,0,none⟩ h1
theorem ErrT.below {W W':World} (h:ErrT W) (hb:Below W.heap.size W W'):ErrT W':=⟨h.1.below hb h.1.lt,h.2.below hb h.2.lt⟩
theorem errVar {n:String} {g:Nat} {tp:TypeId} {W:World} {P:Addr→ByteArray→Prop} (hg:Tryz.prog.globalNamed n=some g) (h:∃ (a:Addr) (s:ByteArray),W.var? Tryz.prog n=some #[.iface tp (.pointer (some a))]∧P a s):ErrV g W:=by
 obtain ⟨a,s,h0,_⟩:=h
 refine ⟨.iface tp (.pointer (some a)),?_,.inr ⟨_,_,rfl⟩⟩
 have h1:=World.var?_cell hg h0 0
 simpa using h1
def ErrB (B:Nat) (W:World):Prop:=ErrT W∧3<B∧4<B
theorem ErrB.t {B:Nat} {W:World} (h:ErrB B W):ErrT W:=h.1
theorem ErrB.step {B:Nat} {W W':World} (h:ErrB B W) (hb:Below B W W'):ErrB B W':=⟨⟨h.1.1.below hb h.2.1,h.1.2.below hb h.2.2⟩,h.2⟩
theorem atoi_calls (s:ByteArray) (hs:s.size≤281474976710656) (W:World) (hE:ErrT W) :
  Calls Tryz.prog 79 #[.string s] W fun e w'=>∃ er,e = .returned (.tuple #[.int .i64 (Cat.num s.data.toList),er])∧Below W.heap.size W w':=by
 obtain ⟨⟨e1,h1,h2⟩,⟨e2,h3,h4⟩⟩:=hE
 unfold Cat.num
 cases h:Lib.atoiAll s.data.toList with
 | ok v=>
  refine (Tryz.strconv_Atoi_ok s (by omega) v h W).mono ?_
  rintro e w' ⟨he,hw⟩
  refine ⟨_,he,?_⟩
  rcases hw with rfl|⟨t,rfl⟩
  ·exact Below.refl _ _
  ·exact Lib.bytesWorld_below _ _ _
 | «syntax»=>
  refine (Tryz.strconv_Atoi_syntax s hs h e1 W h1 h2).mono ?_
  rintro e w' ⟨n,he,_,_,hb⟩
  exact ⟨_,he,hb⟩
 | range=>
  refine (Tryz.strconv_Atoi_range s hs h e2 W h3 h4).mono ?_
  rintro e w' ⟨n,he,_,_,hb⟩
  exact ⟨_,he,hb⟩
/-! ### rows of places of the call's own -/
def Own (base:Nat) (v:Value) (o:List Cat.Cell) (W:World):Prop:=Kd.R k63 63 W base (fun _=>True) v o
theorem Own.below {base:Nat} {v:Value} {o:List Cat.Cell} {W W':World} (h:Own base v o W) (hb:Below W.heap.size W W'):Own base v o W':=Kd.R_below h hb
theorem Own.elem {base:Nat} {v:Value} {o:List Cat.Cell} {W:World} (h:Own base v o W) (i:Nat) (hi:i<o.length) :
  ∃ g cap,v = .slice (some ⟨g,0,none⟩) o.length cap∧o.length≤cap∧W.cell? ⟨g,i * 3+1,none⟩=some (.int .i64 o[i].f1)∧W.frozen? ⟨g,i * 3+1,none⟩=false∧base≤g∧
   (∀ u,Own base v (o.set i ⟨o[i].f0,u,o[i].f2⟩) (W.setCell ⟨g,i * 3+1,none⟩ (.int .i64 u))∧Below base W (W.setCell ⟨g,i * 3+1,none⟩ (.int .i64 u))):=by
 obtain ⟨g,cap,rfl,hg,_,_⟩:=Kd.R_form h (by omega)
 obtain ⟨c,hcl,hM,hcc,hfr⟩:=Kd.R_elem h (⟨0,0,⟨#[]⟩⟩:Cat.Cell) (i:Int) (by omega) (by omega)
 rw [Int.toNat_natCast] at hM hcc hfr
 have eg:o.getD i ⟨0,0,⟨#[]⟩⟩=o[i]:=by simp [List.getD,hi]
 rw [eg] at hM
 have hc:=k63_openM hM
 subst hc
 refine ⟨g,cap,rfl,(Kd.R_reads' h).2.1,hcc 1 _ rfl,hfr 1,hg,fun u=>?_⟩
 have hs:=Kd.R_seg h (i:Int) (by omega) (by omega) (seg:=[.int .i64 u]) (j:=1) hcl (by rw [Int.toNat_natCast];exact hcc) (show 2≤3 from by decide) (x':=(⟨o[i].f0,u,o[i].f2⟩:Cat.Cell)) (k63_mkM _ _ _ (⟨o[i].f0,u,o[i].f2⟩:Cat.Cell)) (fun _ hk=>hk)
 rw [Int.toNat_natCast] at hs
 exact ⟨hs.1,(Below.refl _ _).setCell hg _⟩
def digs:ByteArray:=⟨#[48,49,50,51,52,53,54,55,56,57]⟩
def numBs:ByteArray:=⟨#[45,48,49,50,51,52,53,54,55,56,57]⟩
def lets:ByteArray:=⟨#[97,98,99,100,101,102,103,104,105,106,107,108,109,110,111,112,113,114,115,116,117,118,119,120,121,122]⟩
theorem byte_all {f g:UInt8→Bool} (h:∀ n:Fin 256,f (UInt8.ofNat n.val)=g (UInt8.ofNat n.val)) (b:UInt8):f b=g b:=by
 have:=h ⟨b.toNat,b.toNat_lt⟩
 simpa using this
theorem digs_is (b:UInt8):digs.data.toList.contains b=Cat.isDig b:=byte_all (f:=fun b=>digs.data.toList.contains b) (by decide +kernel) b
theorem numBs_is (b:UInt8):numBs.data.toList.contains b=Cat.isNum b:=byte_all (f:=fun b=>numBs.data.toList.contains b) (by decide +kernel) b
theorem lets_is (b:UInt8):lets.data.toList.contains b=Cat.isLet b:=byte_all (f:=fun b=>lets.data.toList.contains b) (by decide +kernel) b
theorem while_digs (s:ByteArray) (hs:s.size≤9223372036854775807) (W:World):Calls Tryz.prog 78 #[.string s,.string ⟨#[48,49,50,51,52,53,54,55,56,57]⟩] W fun e w'=>e = .returned (.tuple #[.string ⟨(s.data.toList.takeWhile Cat.isDig).toArray⟩,.string ⟨(s.data.toList.dropWhile Cat.isDig).toArray⟩])∧Below W.heap.size W w':=
 while_any s digs Cat.isDig digs_is (by decide) (ascii_of_all (by decide)) hs W
theorem while_numBs (s:ByteArray) (hs:s.size≤9223372036854775807) (W:World):Calls Tryz.prog 78 #[.string s,.string ⟨#[45,48,49,50,51,52,53,54,55,56,57]⟩] W fun e w'=>e = .returned (.tuple #[.string ⟨(s.data.toList.takeWhile Cat.isNum).toArray⟩,.string ⟨(s.data.toList.dropWhile Cat.isNum).toArray⟩])∧Below W.heap.size W w':=
 while_any s numBs Cat.isNum numBs_is (by decide) (ascii_of_all (by decide)) hs W
theorem while_lets (s:ByteArray) (hs:s.size≤9223372036854775807) (W:World):Calls Tryz.prog 78 #[.string s,.string ⟨#[97,98,99,100,101,102,103,104,105,106,107,108,109,110,111,112,113,114,115,116,117,118,119,120,121,122]⟩] W fun e w'=>e = .returned (.tuple #[.string ⟨(s.data.toList.takeWhile Cat.isLet).toArray⟩,.string ⟨(s.data.toList.dropWhile Cat.isLet).toArray⟩])∧Below W.heap.size W w':=
 while_any s lets Cat.isLet lets_is (by decide) (ascii_of_all (by decide)) hs W
theorem byte0 (s:ByteArray) (h:0<s.size):s.data.toList.head?=some (s[0]'h):=by
 rw [List.head?_eq_getElem?]
 rw [Array.getElem?_toList,Array.getElem?_eq_getElem (show 0<s.data.size from h)]
 rfl
/-- what read leaves -/
def ReadQ (base:Nat) (W:World) (q:List Cat.Cell × List UInt8) (e:Ending) (w':World):Prop:=∃ v' r,e = .returned (.tuple #[v',.string r])∧r.data.toList=q.2∧Own base v' q.1 w'∧Below base W w'
def ReadP (base F:Nat):Prop:=∀ (o:List Cat.Cell) (s:ByteArray) (q:List Cat.Cell × List UInt8) (v:Value) (W:World),Cat.readF F o s.data.toList=some q→Own base v o W→base≤W.heap.size→ErrB base W→s.size≤1099511627776→o.length≤41→
  Calls Tryz.prog 53 #[.string s,v] W (ReadQ base W q)
theorem pre_one (l:List UInt8) (c:UInt8):Lib.hasPrefix l [c]=decide (l.head?=some c):=by
 cases l with
 | nil=>rfl
 | cons x y=>
  have e:(c == x)=decide (x=c):=by
   by_cases h:x=c
   ·subst h;simp
   ·rw [decide_eq_false h];exact beq_eq_false_iff_ne.2 (fun e=>h e.symm)
  show (c == x && _)=_
  rw [e]
  simp [List.isPrefixOf]
theorem bump_set (i:Nat) (o:List Cat.Cell) (h:i<o.length):Cat.bump i o=o.set i ⟨o[i].f0,wrap64 (o[i].f1+1),o[i].f2⟩:=by
 unfold Cat.bump
 apply List.ext_getElem?
 intro j
 rw [List.getElem?_modify,List.getElem?_set]
 by_cases e:i=j
 ·subst e;simp [h]
 ·simp [e]
/-- read's loop over arguments -/
def RLoop (base:Nat) (W:World) (i F fuel:Nat) (q0:List Cat.Cell × List UInt8) (v:Value) (r:ByteArray) (wr:World):Prop:=
 ∃ o',Own base v o' wr∧Cat.readL (Cat.readF F) i fuel o' r.data.toList=some q0∧i<o'.length∧Below base W wr∧r.size≤1099511627776∧o'.length≤41
theorem trim_is (l:List UInt8):Lib.trimPrefix l [41]=Cat.trimC l:=by
 unfold Lib.trimPrefix Cat.trimC
 rw [pre_one]
 by_cases h:l.head?=some 41
 ·rw [if_pos h,if_pos (decide_eq_true h)];simp
 ·rw [if_neg h,if_neg (by rw [decide_eq_false h];simp)]
set_option maxHeartbeats 16000000 in
set_option maxRecDepth 100000 in
theorem read_any (base:Nat):∀ F,ReadP base F:=by
 intro F
 induction F with
 | zero=>intro o s q v W h;cases h
 | succ F ih=>
  intro o s q v W h ho hbw hE hs hol
  rw [Cat.readF] at h
  obtain ⟨A,c,e⟩:=Kd.R_slice ho
  subst e
  have hcl:=(Kd.R_reads' ho).2.1
  have HO:=Aside0.mk ho
  have HE:=Aside0.mk hE
  have HI:=Aside0.mk ih
  have HB:=Aside0.mk hbw
  have HH:=Aside0.mk h
  have hs63:s.size≤9223372036854775807:=by omega
  clear ho hE ih h
  by_cases he:s.toList=[]
  ·have he2:(!s.toList.isEmpty)=false:=by rw [he];rfl
   go_enter Tryz.func53,Tryz.ntmps53
   go_wp2_with (fail)
   go_ret2
   have h1:=HH.out
   rw [if_pos (.inl (by rw [← Lib.toList_data];exact he))] at h1
   obtain rfl:=Option.some.inj h1
   exact ⟨_,⟨#[]⟩,rfl,rfl,HO.out,Below.refl _ _⟩
  ·have hpos:0<s.size:=by
    rw [Lib.size_eq,← Lib.toList_data]
    exact List.length_pos_iff.2 he
   have hemp:s.toList.isEmpty=false:=by
    cases hq:s.toList with
    | nil=>exact absurd hq he
    | cons x y=>rfl
   have HNE:=Aside0.mk (show s.data.toList≠[] by rw [← Lib.toList_data];exact he)
   by_cases h40:40<o.length
   ·have h40z:(40:Int)<(o.length:Int):=by omega
    go_enter Tryz.func53,Tryz.ntmps53
    go_wp2_with (fail)
    go_ret2
    have h1:=HH.out
    rw [if_pos (.inr h40)] at h1
    obtain rfl:=Option.some.inj h1
    exact ⟨_,⟨#[]⟩,rfl,rfl,HO.out,Below.refl _ _⟩
   ·have h40z:¬ (40:Int)<(o.length:Int):=by omega
    have h1:=HH.out
    rw [if_neg (fun h=>h.elim HNE.out h40)] at h1
    clear HH
    by_cases hX:s.data.toList.head?=some 88
    ·rw [if_pos hX] at h1
     obtain rfl:=Option.some.inj h1
     have hx:((s[0]'hpos).toNat == 88)=true:=by
      have e:=byte0 s hpos
      rw [hX] at e
      rw [← Option.some.inj e];rfl
     clear h1
     have hl1:(s.extract 1 s.size).data.toList=s.data.toList.tail:=by rw [Lib.extract_to_end,List.drop_one]
     have hz1:(s.extract 1 s.size).size≤9223372036854775807:=by rw [Lib.size_eq,hl1,List.length_tail,← Lib.size_eq];omega
     have hw:=while_digs (s.extract 1 s.size) hz1 W
     rw [hl1] at hw
     obtain ⟨tw,htw⟩:∃ tw,tw=s.data.toList.tail.takeWhile Cat.isDig:=⟨_,rfl⟩
     have hzt:tw.length≤1099511627776:=by
      rw [htw]
      have:=(List.takeWhile_sublist (p:=Cat.isDig) (l:=s.data.toList.tail)).length_le
      rw [List.length_tail,← Lib.size_eq] at this
      omega
     have ha:=fun W' (hE:ErrT W')=>atoi_calls (⟨tw.toArray⟩:ByteArray) (by rw [Lib.size_eq];simp;omega) W' hE
     have etw:(⟨tw.toArray⟩:ByteArray).data.toList=tw:=by simp
     rw [etw] at ha
     rw [← htw] at hw ⊢
     have HW:=Aside0.mk hw
     have HA:=Aside0.mk ha
     clear hw ha htw hl1 hz1 etw hzt hX
     go_enter Tryz.func53,Tryz.ntmps53
     go_wp2_with (first
      | (go_at_call 78;(with_reducible refine HW.out.mono ?_);rintro e w1 ⟨rfl,hb1⟩;have hz1:=hb1.size;have HB1:=Aside0.mk hb1;clear hb1)
      | (go_at_call 79;(with_reducible refine (HA.out w1 (HE.out.t.below HB1.out)).mono ?_);rintro e w2 ⟨er,rfl,hb2⟩;have hz2:=hb2.size;have HO2:=Aside0.mk ((HO.out.below HB1.out).below hb2);have HB2:=Aside0.mk (HB1.out.trans (hb2.mono HB1.out.size));clear hb2)
      | ((with_reducible refine gate_builtin (b:=.append) (xs:=#[.tmp 39,.tmp 42]) rfl ?_);at_builtin;refine Kd.R_append k63 base rfl (.tmp 39) (.tmp 42) 22 63 (.agg #[(.int .i64 0),(.int .i64 0),(.string ⟨#[]⟩)]) 32 rfl Tryz.underlying22 info63 rfl (by decide) (by omega) (.slice A o.length c) o (⟨1,Cat.num tw,⟨#[]⟩⟩:Cat.Cell) [.int .i64 1,.int .i64 (Cat.num tw),.string ⟨#[]⟩] (fun _=>True) (fun _=>False) rfl rfl ?aP (fun _ hk=>hk.elim) (fun _ _=>trivial) HO2.out (Below.refl _ _) ?aS (by omega) ?_;(case aP=>exact k63_mkM _ _ _ (⟨1,Cat.num tw,⟨#[]⟩⟩:Cat.Cell));(case aS=>have:=HB.out;omega);intro v3 w3 ho3 hb3 _ _;have HO3:=Aside0.mk ho3;have HB3:=Aside0.mk hb3;clear ho3 hb3))
     go_ret2
     exact ⟨_,_,rfl,by simp,HO3.out,(HB2.out.mono HB.out).trans HB3.out⟩
    ·rw [if_neg hX] at h1
     have hx:((s[0]'hpos).toNat == 88)=false:=by
      have e:=byte0 s hpos
      cases hq:((s[0]'hpos).toNat == 88) with
      | false=>rfl
      | true=>
       have h88:s[0]'hpos=88:=UInt8.toNat_inj.1 (by simpa using hq)
       rw [h88] at e
       exact absurd e hX
     have hwl:=while_lets s hs63 W
     by_cases hN:s.data.toList.takeWhile Cat.isLet≠[]
     ·rw [if_pos hN] at h1
      obtain ⟨nm,hnm⟩:∃ nm,nm=s.data.toList.takeWhile Cat.isLet:=⟨_,rfl⟩
      obtain ⟨rs,hrs⟩:∃ rs,rs=s.data.toList.dropWhile Cat.isLet:=⟨_,rfl⟩
      have hzr:rs.length≤1099511627776:=by
       rw [hrs]
       have:=(List.dropWhile_sublist (p:=Cat.isLet) (l:=s.data.toList)).length_le
       rw [← Lib.size_eq] at this
       omega
      rw [← hnm,← hrs] at h1 hwl
      rw [← hnm] at hN
      have HH1:=Aside0.mk h1
      have HWL:=Aside0.mk hwl
      have HN:=Aside0.mk hN
      have hne:nm.isEmpty=false:=by
       cases hq:nm with
       | nil=>exact absurd hq hN
       | cons x y=>rfl
      have hpre:=fun W'=>Tryz.strings_HasPrefix (⟨rs.toArray⟩:ByteArray) ⟨#[40]⟩ W'
      have ep:Lib.hasPrefix (⟨rs.toArray⟩:ByteArray).data.toList (⟨#[40]⟩:ByteArray).data.toList=decide (rs.head?=some 40):=by
       exact pre_one rs 40
      rw [ep] at hpre
      by_cases h3:rs.head?=some 40
      ·rw [if_pos h3] at h1
       rw [decide_eq_true h3] at hpre
       have HH1:=Aside0.mk h1
       have HWL:=Aside0.mk hwl
       have HPRE:=Aside0.mk hpre
       clear h1 hwl hX hnm hrs hN hpre ep
       go_enter Tryz.func53,Tryz.ntmps53
       go_wp2_with (first
        | (go_at_call 78;(with_reducible refine HWL.out.mono ?_);rintro e w1 ⟨rfl,hb1⟩;have hz1:=hb1.size;have HB1:=Aside0.mk hb1;have HO1:=Aside0.mk (HO.out.below hb1);clear hb1)
        | (go_at_call 80;(with_reducible refine (HPRE.out w3).mono ?_);rintro e w5 ⟨rfl,rfl⟩)
        | ((with_reducible refine gate_builtin (b:=.append) (xs:=#[.tmp 54,.tmp 57]) rfl ?_);at_builtin;refine Kd.R_append k63 base rfl (.tmp 54) (.tmp 57) 22 63 (.agg #[(.int .i64 0),(.int .i64 0),(.string ⟨#[]⟩)]) 32 rfl Tryz.underlying22 info63 rfl (by decide) (by omega) (.slice A o.length c) o (⟨3,0,⟨nm.toArray⟩⟩:Cat.Cell) [.int .i64 3,.int .i64 0,.string ⟨nm.toArray⟩] (fun _=>True) (fun _=>False) rfl rfl ?aP (fun _ hk=>hk.elim) (fun _ _=>trivial) HO1.out (Below.refl _ _) ?aS (by omega) ?_;(case aP=>exact k63_mkM _ _ _ (⟨3,0,⟨nm.toArray⟩⟩:Cat.Cell));(case aS=>have:=HB.out;omega);intro v3 w3 ho3 hb3 _ _;have HO3:=Aside0.mk ho3;have HB3:=Aside0.mk hb3;clear ho3 hb3))
       obtain ⟨q0,hq0,hq1⟩:=Option.map_eq_some_iff.1 HH1.out
       have HQ1:=Aside0.mk hq1
       have HLP:=Aside0.mk (show RLoop base W o.length F F q0 v3 ⟨rs.toArray⟩ _ from
        ⟨_,HO3.out,by simpa using hq0,by simp,(HB1.out.mono HB.out).trans HB3.out,by rw [Lib.size_eq];simpa using hzr,by simp;omega⟩)
       clear hq0 hq1 HH1 HWL HPRE HO3 HB1 HO1 HB3 HO h3 hne hx hz1
       go_loopg [1,11] F (fun gg s1 s11 wr=>∃ (r:ByteArray),s11 = .string r∧Aside0 (RLoop base W o.length F gg q0 s1 r wr))
       case atStart=>exact ⟨_,rfl,HLP⟩
       case round=>
        obtain ⟨r,rfl,HL⟩:=hrel
        cases gk with
        | zero=>obtain ⟨o',_,h2,_⟩:=HL.out;cases h2
        | succ gk=>
         obtain ⟨o',g1,g2,g3,g4,g5,g6⟩:=HL.out
         rw [Cat.readL] at g2
         have hrz:r.size≤9223372036854775807:=by omega
         by_cases hend:r.data.toList=[]∨r.data.toList.head?=some 41∨40<o'.length
         ·rw [if_pos hend] at g2
          obtain rfl:=Option.some.inj g2
          have G1:=Aside0.mk g1
          have G4:=Aside0.mk g4
          clear g1 g2 g4 g5
          have htp:=fun W'=>Tryz.strings_TrimPrefix r ⟨#[41]⟩ W'
          have HTP:=Aside0.mk htp
          clear htp
          have hfin:∀ (v:Value) (W':World),Own base v o' W'→Below base W W'→ReadQ base W q (.returned (.tuple #[v,.string ⟨(Lib.trimPrefix r.data.toList (⟨#[41]⟩:ByteArray).data.toList).toArray⟩])) W':=fun v W' h1 h2=>by
           have hq:=HQ1.out
           subst hq
           exact ⟨v,_,rfl,by rw [show (⟨#[41]⟩:ByteArray).data.toList=[41] from rfl,trim_is],h1,h2⟩
          have HFIN:=Aside0.mk hfin
          clear hfin
          obtain ⟨A1,c1,ev1⟩:=Kd.R_slice G1.out
          subst ev1
          by_cases hn1:r.data.toList=[]
          ·have hre:r.toList.isEmpty=true:=by rw [Lib.toList_data,hn1];rfl
           clear hend hn1
           go_wp2_with (go_at_call 81;(with_reducible refine (HTP.out _).mono ?_);rintro e w6 ⟨rfl,rfl⟩)
           go_ret2
           exact HFIN.out _ _ G1.out G4.out
          ·have hrp:0<r.size:=by rw [Lib.size_eq];exact List.length_pos_iff.2 hn1
           have hre:r.toList.isEmpty=false:=by
            rw [Lib.toList_data]
            cases hq:r.data.toList with
            | nil=>exact absurd hq hn1
            | cons x y=>rfl
           by_cases h41:r.data.toList.head?=some 41
           ·have hr41i:(((r[0]'hrp).toNat:Int)=41):=by
             have e:=byte0 r hrp
             rw [h41] at e
             rw [← Option.some.inj e];rfl
            clear hend hn1 h41
            go_wp2_with (go_at_call 81;(with_reducible refine (HTP.out _).mono ?_);rintro e w6 ⟨rfl,rfl⟩)
            go_ret2
            exact HFIN.out _ _ G1.out G4.out
           ·have h40:¬ (o'.length:Int)≤40:=by
             have:40<o'.length:=hend.elim (fun h=>absurd h hn1) (fun h=>h.elim (fun h=>absurd h h41) id)
             omega
            have hr41i:¬ (((r[0]'hrp).toNat:Int)=41):=by
             intro e
             have e0:=byte0 r hrp
             have e1:r[0]'hrp=41:=UInt8.toNat_inj.1 (by simpa using (by omega:(r[0]'hrp).toNat=41))
             rw [e1] at e0
             exact h41 e0
            clear hend hn1 h41
            go_wp2_with (go_at_call 81;(with_reducible refine (HTP.out _).mono ?_);rintro e w6 ⟨rfl,rfl⟩)
            go_ret2
            exact HFIN.out _ _ G1.out G4.out
         ·rw [if_neg hend] at g2
          obtain ⟨q1,k1,k2⟩:=Option.bind_eq_some_iff.1 g2
          have hn1:r.data.toList≠[]:=fun h=>hend (.inl h)
          have hrp:0<r.size:=by rw [Lib.size_eq];exact List.length_pos_iff.2 hn1
          have hre:r.toList.isEmpty=false:=by
           rw [Lib.toList_data]
           cases hq:r.data.toList with
           | nil=>exact absurd hq hn1
           | cons x y=>rfl
          have hr41:((r[0]'hrp).toNat != 41)=true:=by
           have e:=byte0 r hrp
           cases hq:((r[0]'hrp).toNat != 41) with
           | true=>rfl
           | false=>
            have h88:r[0]'hrp=41:=UInt8.toNat_inj.1 (by simpa using hq)
            rw [h88] at e
            exact absurd (.inr (.inl e)) hend
          have h40:(o'.length:Int)≤40:=by have:¬ 40<o'.length:=fun h=>hend (.inr (.inr h));omega
          obtain ⟨g,cap,rfl,hcap,hcell,hfz,hg,hset⟩:=g1.elem o.length g3
          have g3z:(o.length:Int)<(o'.length:Int):=by omega
          have hr41i:¬ (((r[0]'hrp).toNat:Int)=41):=by
           intro e
           have:(r[0]'hrp).toNat=41:=by omega
           rw [this] at hr41
           cases hr41
          have hbd:=Cat.readF_bound _ _ _ _ k1
          have hl1:(r.extract 1 r.size).data.toList=r.data.toList.tail:=by rw [Lib.extract_to_end,List.drop_one]
          have hz1:(r.extract 1 r.size).size≤1099511627776:=by rw [Lib.size_eq,hl1,List.length_tail,← Lib.size_eq];omega
          obtain ⟨hs1,hs2⟩:=hset (wrap64 (o'[o.length].f1+1))
          rw [bump_set _ _ g3,← hl1] at k1
          have HCALL:=Aside0.mk (HI.out _ _ q1 _ _ k1 hs1 (Nat.le_trans HB.out (Nat.le_trans g4.size hs2.size)) ((HE.out.step g4).step hs2) hz1 (by rw [List.length_set];exact g6))
          have HB6:=Aside0.mk (g4.trans hs2)
          have HBD:=Aside0.mk hbd
          have HK2:=Aside0.mk k2
          have G3:=Aside0.mk g3
          have G5:=Aside0.mk (show r.data.toList.length≤1099511627776 by rw [← Lib.size_eq];exact g5)
          clear hend g2 g1 hr41 hset hs1 hs2 hbd k1 k2 g4 g5 g6 hn1 hl1 hz1
          go_wp2_with (go_at_call 53;(with_reducible refine HCALL.out.mono ?_);rintro e w6 ⟨v6,r6,rfl,hr6,ho6,hb6⟩;have HR6:=Aside0.mk hr6;have HO6:=Aside0.mk ho6;have HB7:=Aside0.mk (HB6.out.trans hb6);clear hr6 ho6 hb6)
          go_roundg gk
          case measure=>omega
          case rel=>
           obtain ⟨d1,d2,d3⟩:=HBD.out
           rw [Cat.bump_len] at d2 d3
           rw [List.length_tail] at d1
           have:=G3.out
           have:=G5.out
           refine ⟨r6,rfl,⟨q1.1,HO6.out,by rw [HR6.out];exact HK2.out,by omega,HB7.out,by rw [Lib.size_eq,HR6.out];omega,by omega⟩⟩
      ·rw [if_neg h3] at h1
       obtain rfl:=Option.some.inj h1
       rw [decide_eq_false h3] at hpre
       have HWL:=Aside0.mk hwl
       have HPRE:=Aside0.mk hpre
       clear h1 hwl hX hnm hrs hN hpre ep h3
       go_enter Tryz.func53,Tryz.ntmps53
       go_wp2_with (first
        | (go_at_call 78;(with_reducible refine HWL.out.mono ?_);rintro e w1 ⟨rfl,hb1⟩;have hz1:=hb1.size;have HB1:=Aside0.mk hb1;have HO1:=Aside0.mk (HO.out.below hb1);clear hb1)
        | (go_at_call 80;(with_reducible refine (HPRE.out w3).mono ?_);rintro e w5 ⟨rfl,rfl⟩)
        | ((with_reducible refine gate_builtin (b:=.append) (xs:=#[.tmp 54,.tmp 57]) rfl ?_);at_builtin;refine Kd.R_append k63 base rfl (.tmp 54) (.tmp 57) 22 63 (.agg #[(.int .i64 0),(.int .i64 0),(.string ⟨#[]⟩)]) 32 rfl Tryz.underlying22 info63 rfl (by decide) (by omega) (.slice A o.length c) o (⟨3,0,⟨nm.toArray⟩⟩:Cat.Cell) [.int .i64 3,.int .i64 0,.string ⟨nm.toArray⟩] (fun _=>True) (fun _=>False) rfl rfl ?aP (fun _ hk=>hk.elim) (fun _ _=>trivial) HO1.out (Below.refl _ _) ?aS (by omega) ?_;(case aP=>exact k63_mkM _ _ _ (⟨3,0,⟨nm.toArray⟩⟩:Cat.Cell));(case aS=>have:=HB.out;omega);intro v3 w3 ho3 hb3 _ _;have HO3:=Aside0.mk ho3;have HB3:=Aside0.mk hb3;clear ho3 hb3))
       go_ret2
       exact ⟨_,_,rfl,by simp,HO3.out,(HB1.out.mono HB.out).trans HB3.out⟩
     ·rw [if_neg hN] at h1
      obtain rfl:=Option.some.inj h1
      have hn:s.data.toList.takeWhile Cat.isLet=[]:=Classical.not_not.1 hN
      rw [hn] at hwl
      have hw:=while_numBs s hs63
      obtain ⟨tw,htw⟩:∃ tw,tw=s.data.toList.takeWhile Cat.isNum:=⟨_,rfl⟩
      have hzt:tw.length≤1099511627776:=by
       rw [htw]
       have:=(List.takeWhile_sublist (p:=Cat.isNum) (l:=s.data.toList)).length_le
       rw [← Lib.size_eq] at this
       omega
      have ha:=fun W' (hE:ErrT W')=>atoi_calls (⟨tw.toArray⟩:ByteArray) (by rw [Lib.size_eq];simp;omega) W' hE
      have etw:(⟨tw.toArray⟩:ByteArray).data.toList=tw:=by simp
      rw [etw] at ha
      rw [← htw] at hw ⊢
      have HW:=Aside0.mk hw
      have HWL:=Aside0.mk hwl
      have HA:=Aside0.mk ha
      clear hw ha htw etw hzt hX h1 hwl hn hN
      go_enter Tryz.func53,Tryz.ntmps53
      go_wp2_with (first
       | (go_at_call 78;(with_reducible refine HWL.out.mono ?_);rintro e w1 ⟨rfl,hb1⟩;have hz1:=hb1.size;have HB1:=Aside0.mk hb1;have HO1:=Aside0.mk (HO.out.below hb1);clear hb1)
       | (go_at_call 78;(with_reducible refine (HW.out w1).mono ?_);rintro e w2 ⟨rfl,hb2⟩;have hz2:=hb2.size;have HO2:=Aside0.mk (HO1.out.below hb2);have HB2:=Aside0.mk (HB1.out.trans (hb2.mono HB1.out.size));clear hb2)
       | (go_at_call 79;(with_reducible refine (HA.out w2 (HE.out.t.below HB2.out)).mono ?_);rintro e w4 ⟨er,rfl,hb4⟩;have hz4:=hb4.size;have HO4:=Aside0.mk (HO2.out.below hb4);have HB4:=Aside0.mk (HB2.out.trans (hb4.mono HB2.out.size));clear hb4)
       | ((with_reducible refine gate_builtin (b:=.append) (xs:=#[.tmp 104,.tmp 107]) rfl ?_);at_builtin;refine Kd.R_append k63 base rfl (.tmp 104) (.tmp 107) 22 63 (.agg #[(.int .i64 0),(.int .i64 0),(.string ⟨#[]⟩)]) 32 rfl Tryz.underlying22 info63 rfl (by decide) (by omega) (.slice A o.length c) o (⟨2,Cat.num tw,⟨#[]⟩⟩:Cat.Cell) [.int .i64 2,.int .i64 (Cat.num tw),.string ⟨#[]⟩] (fun _=>True) (fun _=>False) rfl rfl ?aP (fun _ hk=>hk.elim) (fun _ _=>trivial) HO4.out (Below.refl _ _) ?aS (by omega) ?_;(case aP=>exact k63_mkM _ _ _ (⟨2,Cat.num tw,⟨#[]⟩⟩:Cat.Cell));(case aS=>have:=HB.out;omega);intro v3 w3 ho3 hb3 _ _;have HO3:=Aside0.mk ho3;have HB3:=Aside0.mk hb3;clear ho3 hb3))
      go_ret2
      exact ⟨_,_,rfl,by simp,HO3.out,(HB4.out.mono HB.out).trans HB3.out⟩

/-! ### impl_TrmRead: function 27 -/
def impl_TrmRead.f (k:Nat) (s:ByteArray):Option (List (S63) × Bool):=if s.size≤1099511627776 then (Cat.readF (s.size+1) [] s.data.toList).bind fun q=>if s.data.toList=[] then some ([],false) else (impl_TrmText.f k q.1).bind fun t=>if t.data.toList=s.data.toList then some (q.1,true) else some ([],false) else none
theorem ErrT.b {W:World} (h:ErrT W):ErrB W.heap.size W:=⟨h,h.1.lt,h.2.lt⟩
theorem own_nil (W:World) (base:Nat):Own base (.slice none 0 0) [] W:=Kd.R_nil _ _ _ _ _
set_option maxHeartbeats 8000000 in
set_option maxRecDepth 100000 in
theorem impl_TrmRead.calls (k:Nat) (s:ByteArray) (r1:List (S63)) (r2:Bool) (w:World) (hT_:TabT w) (hE_:ErrT w) (h:impl_TrmRead.f k s=some (r1,r2)) :
  Calls Tryz.prog 27 #[.string s] w fun e w'=>∃ v0_:Value,e = .returned (.tuple #[v0_,.bool r2])∧Kd.R k63 63 w' w.heap.size (fun _=>True) v0_ r1∧Below w.heap.size w w':=by
 unfold impl_TrmRead.f at h
 by_cases hs:s.size≤1099511627776
 case neg=>rw [if_neg hs] at h;cases h
 rw [if_pos hs] at h
 obtain ⟨q,hq,h⟩:=Option.bind_eq_some_iff.1 h
 have HR:=Aside0.mk (read_any w.heap.size (s.size+1) [] s q (.slice none 0 0) w hq (own_nil w _) (Nat.le_refl _) hE_.b hs (by simp))
 have HT:=Aside0.mk hT_
 by_cases he:s.data.toList=[]
 ·rw [if_pos he] at h
  injection h with h
  injection h with h1 h2
  subst h1 h2
  have he2:s.toList=[]:=by rw [Lib.toList_data];exact he
  have he3:(!s.toList.isEmpty)=false:=by rw [he2];rfl
  clear he hq hT_ hE_
  go_enter Tryz.func27,Tryz.ntmps27
  go_wp2_with (go_at_call 53;(with_reducible refine HR.out.mono ?_);rintro e w1 ⟨v1,r,rfl,_,ho1,hb1⟩;have HB1:=Aside0.mk hb1;clear ho1 hb1)
  go_ret2
  exact ⟨_,rfl,own_nil _ _,HB1.out⟩
 ·rw [if_neg he] at h
  obtain ⟨t,ht,h⟩:=Option.bind_eq_some_iff.1 h
  have he2:s.toList.isEmpty=false:=by
   rw [Lib.toList_data]
   cases hq:s.data.toList with
   | nil=>exact absurd hq he
   | cons x y=>rfl
  have he1:¬ s.toList=[]:=by rw [Lib.toList_data];exact he
  have HTX:=Aside0.mk ht
  by_cases ht2:t.data.toList=s.data.toList
  ·rw [if_pos ht2] at h
   injection h with h
   injection h with h1 h2
   subst h1 h2
   have hts:t.toList=s.toList:=by rw [Lib.toList_data,Lib.toList_data];exact ht2
   have htb:(t.toList == s.toList)=true:=by rw [hts];simp
   have htb2:(t.toList != s.toList)=false:=by rw [hts];simp
   clear he hq hT_ hE_ ht hts ht2
   go_enter Tryz.func27,Tryz.ntmps27
   go_wp2_with (first
    | (go_at_call 53;(with_reducible refine HR.out.mono ?_);rintro e w1 ⟨v1,r,rfl,_,ho1,hb1⟩;obtain ⟨A1,c1,ev1⟩:=Kd.R_slice ho1;subst ev1;have HC1:=Aside0.mk (Kd.R_reads' ho1);have HO1:=Aside0.mk ho1;have HB1:=Aside0.mk hb1;clear ho1 hb1)
    | (go_at_call 35;(with_reducible refine (impl_TrmText.calls k A1 c1 q.1 t w1 (HT.out.below HB1.out) HC1.out.2.2 HC1.out.2.1 HTX.out).mono ?_);rintro e w2 ⟨rfl,hb2⟩;have HB2:=Aside0.mk hb2;clear hb2))
   go_ret2
   exact ⟨_,rfl,HO1.out.below HB2.out,HB1.out.trans (HB2.out.mono HB1.out.size)⟩
  ·rw [if_neg ht2] at h
   injection h with h
   injection h with h1 h2
   subst h1 h2
   have hts:¬ t.toList=s.toList:=by rw [Lib.toList_data,Lib.toList_data];exact ht2
   have htb:(t.toList == s.toList)=false:=beq_eq_false_iff_ne.2 hts
   have htb2:(t.toList != s.toList)=true:=by simp [bne,htb]
   clear he hq hT_ hE_ ht hts ht2
   go_enter Tryz.func27,Tryz.ntmps27
   go_wp2_with (first
    | (go_at_call 53;(with_reducible refine HR.out.mono ?_);rintro e w1 ⟨v1,r,rfl,_,ho1,hb1⟩;obtain ⟨A1,c1,ev1⟩:=Kd.R_slice ho1;subst ev1;have HC1:=Aside0.mk (Kd.R_reads' ho1);have HO1:=Aside0.mk ho1;have HB1:=Aside0.mk hb1;clear ho1 hb1)
    | (go_at_call 35;(with_reducible refine (impl_TrmText.calls k A1 c1 q.1 t w1 (HT.out.below HB1.out) HC1.out.2.2 HC1.out.2.1 HTX.out).mono ?_);rintro e w2 ⟨rfl,hb2⟩;have HB2:=Aside0.mk hb2;clear hb2))
   go_ret2
   exact ⟨_,rfl,own_nil _ _,HB1.out.trans (HB2.out.mono HB1.out.size)⟩

end Go.Proofs.YtlhniagacegbeaaGreatDoor.P
