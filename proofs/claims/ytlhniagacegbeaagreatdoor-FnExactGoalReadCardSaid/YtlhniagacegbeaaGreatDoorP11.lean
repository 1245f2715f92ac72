/- Contracts of functions of the program: each as a Lean function, and that its call does what that says; printed by cprint.py (this session) over print.py of the kit. Conditions: the hypotheses of each theorem. -/
import Derived.Test.YtlhniagacegbeaaGreatDoorVZ
import Derived.Test.YtlhniagacegbeaaGreatDoorP0
import Derived.Test.YtlhniagacegbeaaGreatDoorP9
import Derived.Test.YtlhniagacegbeaaGreatDoorP10
namespace Go.Proofs.YtlhniagacegbeaaGreatDoor.P
open Go.RowKit Go.Proofs.YtlhniagacegbeaaGreatDoorW.PrintWords Go.Proofs.YtlhniagacegbeaaGreatDoorW.PrintLast Go.Proofs.YtlhniagacegbeaaGreatDoorW.PrintMore
attribute [local go_sem] max2_int min2_int max_two min_two max_three min_three max_four min_four   -- for this text's walks alone
set_option linter.unusedVariables false
set_option linter.unusedSimpArgs false

/-! ### impl_text: function 60 -/
/-- a builder in block b: where it lies, the value of its row, and the bytes that it holds -/
def BP (base b:Nat) (p v:Value) (l:List UInt8) (W:World):Prop:=
 base≤b∧W.heap[b]?=some (.cells #[p,v] 84 (0,0))∧W.ownsRowF base 5 1 v l.length (Lib.byteCells l)∧v.ownBlock≠some b
def BS (base b:Nat) (v:Value) (l:List UInt8) (W:World):Prop:=∃ p,(p = .pointer none∨p = .pointer (some ⟨b,0,none⟩))∧BP base b p v l W
theorem grown_of_below {W W':World} (h:Below W.heap.size W W') (row:Option Nat):W.grownBy W' row:=⟨h.os,h.tape,h.output,h.size,fun i hi _=>h.block i hi⟩
theorem BP.lt {base b:Nat} {p v:Value} {l:List UInt8} {W:World} (h:BP base b p v l W):b<W.heap.size:=(Array.getElem?_eq_some_iff.1 h.2.1).1
theorem BP.step {base b:Nat} {p v:Value} {l:List UInt8} {W W':World} {row:Option Nat} (h:BP base b p v l W) (hg:W.grownBy W' row) (h1:some b≠row) (h2:v.ownBlock=none∨v.ownBlock≠row):BP base b p v l W':=
 ⟨h.1,(hg.block b h.lt h1).trans h.2.1,h.2.2.1.kept hg h2,h.2.2.2⟩
theorem BS.lt {base b:Nat} {v:Value} {l:List UInt8} {W:World} (h:BS base b v l W):b<W.heap.size:=by
 obtain ⟨p,_,h⟩:=h
 exact h.lt
theorem BS.below {base b:Nat} {v:Value} {l:List UInt8} {W W':World} (h:BS base b v l W) (hb:Below W.heap.size W W'):BS base b v l W':=by
 obtain ⟨p,hp,h⟩:=h
 refine ⟨p,hp,h.step (grown_of_below hb none) (by simp) ?_⟩
 cases hv:v.ownBlock with
 | none=>exact .inl rfl
 | some k=>exact .inr (by simp)
theorem BS.own_lt {base b:Nat} {v:Value} {l:List UInt8} {W:World} (h:BS base b v l W):∀ k,v.ownBlock=some k→base≤k∧k<W.heap.size:=by
 obtain ⟨p,_,h⟩:=h
 exact h.2.2.1.lt
/-- what stands in all blocks but the builder's and its row's -/
structure KB (W W':World) (b:Nat) (v:Value):Prop where
 os:W'.os=W.os
 tape:W'.tape=W.tape
 output:W'.output=W.output
 size:W.heap.size≤W'.heap.size
 block:∀ k,k<W.heap.size→k≠b→some k≠v.ownBlock→W'.heap[k]?=W.heap[k]?
theorem KB.below {W W':World} {base b:Nat} {v:Value} {l:List UInt8} (h:KB W W' b v) (hb:BS base b v l W):Below base W W':=
 ⟨h.os,h.tape,h.output,h.size,fun k hk=>h.block k (by obtain ⟨p,_,h1⟩:=hb;have:=h1.1;have:=h1.lt;omega) (by obtain ⟨p,_,h1⟩:=hb;have:=h1.1;omega) (fun e=>by have:=(hb.own_lt k e.symm).1;omega)⟩
theorem bld_type:(Tryz.prog.info? 84).map (·.size)=some 2:=by kernel_rfl
set_option maxRecDepth 100000 in
theorem copyCheck_used (base b:Nat) (v:Value) (l:List UInt8) (W:World) (h:BP base b (.pointer (some ⟨b,0,none⟩)) v l W) :
  Calls Tryz.prog 107 #[.pointer (some ⟨b,0,none⟩)] W fun e w'=>e = .returned (.tuple #[])∧W=w':=by
 obtain ⟨j,hj,_⟩:=Option.map_eq_some_iff.1 bld_type
 have h0:W.cell? ⟨b,0,none⟩=some (.pointer (some ⟨b,0,none⟩)):=by rw [Lib.cell_of_heap h.2.1];rfl
 clear h
 go_enter Tryz.func107,Tryz.ntmps107
 go_wp2
 rw [Lib.run_neq_ptr_same W _ Tryz.underlying82 hj]
 go_wp2
 go_end0
 exact ⟨rfl,rfl⟩
theorem bld_lies:liesAt Tryz.prog Tryz.prog.depth 84 (2 / Tryz.prog.cellsOf 84) 0 84 1=true:=by kernel_rfl
set_option maxRecDepth 100000 in
theorem copyCheck_fresh (base b:Nat) (v:Value) (l:List UInt8) (W:World) (h:BP base b (.pointer none) v l W) :
  Calls Tryz.prog 107 #[.pointer (some ⟨b,0,none⟩)] W fun e w'=>e = .returned (.tuple #[])∧W.setCell ⟨b,0,none⟩ (.pointer (some ⟨b,0,none⟩))=w':=by
 obtain ⟨j,hj,hjs⟩:=Option.map_eq_some_iff.1 bld_type
 have h0:W.cell? ⟨b,0,none⟩=some (.pointer none):=by rw [Lib.cell_of_heap h.2.1];rfl
 have hsh:W.shape? b=some (84,2):=by unfold World.shape?;rw [h.2.1];rfl
 have hfz:W.frozen? ⟨b,0,none⟩=false:=Lib.frozen_of_heap h.2.1 0
 clear h
 go_enter Tryz.func107,Tryz.ntmps107
 go_wp2
 rw [Lib.run_to_unsafe W ⟨b,0,none⟩ Tryz.underlying82 Tryz.underlying133 hj (by rw [hjs];decide) hsh (Nat.zero_lt_succ 1)]
 simp only [Result.andThen]
 rw [Oper.upon_value]
 go_wp2
 rw [run_callFunc_extern Tryz.func126 (by kernel_rfl) (by kernel_rfl) (by kernel_rfl) (e:=Extern.AbiNoEscape.same) (by kernel_rfl)]
 rw [Lib.run_noEscape]
 simp only [Result.andThen]
 rw [Oper.upon_value]
 go_wp2
 rw [Lib.run_from_unsafe W ⟨b,0,none⟩ Tryz.underlying133 Tryz.underlying82 hj hsh bld_lies]
 simp only [Result.andThen]
 rw [Oper.upon_value]
 go_wp2
 go_end0
 exact ⟨rfl,rfl⟩
theorem own_set {w:World} {base e n b:Nat} {v:Value} {xs:List Value} (h:w.ownsRowF base e 1 v n xs) (hb:v.ownBlock≠some b) (j:Nat) (u:Value):(w.setCell ⟨b,j,none⟩ u).ownsRowF base e 1 v n xs:=
 h.kept (row:=some b) ⟨rfl,rfl,rfl,by simp [World.setCell],fun k _ hk=>Below.heap_setCell w ⟨b,j,none⟩ u k (fun e=>hk (by rw [e]))⟩ (Or.inr hb)
theorem BP.used {base b:Nat} {p v:Value} {l:List UInt8} {W:World} (h:BP base b p v l W) (q:Value):BP base b q v l (W.setCell ⟨b,0,none⟩ q):=by
 refine ⟨h.1,?_,?_,h.2.2.2⟩
 ·have:=h.2.1
  simp [World.setCell,Array.getElem?_modify,this]
 ·exact own_set h.2.2.1 h.2.2.2 0 q
theorem KB.refl (W:World) (b:Nat) (v:Value):KB W W b v:=⟨rfl,rfl,rfl,Nat.le_refl _,fun _ _ _ _=>rfl⟩
theorem KB.set {W W':World} {b:Nat} {v:Value} (h:KB W W' b v) (j:Nat) (u:Value):KB W (W'.setCell ⟨b,j,none⟩ u) b v:=
 ⟨h.os,h.tape,h.output,by simpa [World.setCell] using h.size,fun k hk h1 h2=>(Below.heap_setCell W' ⟨b,j,none⟩ u k h1).trans (h.block k hk h1 h2)⟩
theorem KB.grown {W W1 W':World} {b:Nat} {v:Value} (h:KB W W1 b v) (hg:W1.grownBy W' v.ownBlock):KB W W' b v:=
 ⟨hg.os.trans h.os,hg.tape.trans h.tape,hg.output.trans h.output,Nat.le_trans h.size hg.size,fun k hk h1 h2=>(hg.block k (Nat.lt_of_lt_of_le hk h.size) h2).trans (h.block k hk h1 h2)⟩
theorem KB.then_ {W W1 W':World} {b:Nat} {v v1:Value} (h:KB W W1 b v) (k:KB W1 W' b v1) (hv:v1.ownBlock=v.ownBlock∨∃ g,v1.ownBlock=some g∧W.heap.size≤g):KB W W' b v:=
 ⟨k.os.trans h.os,k.tape.trans h.tape,k.output.trans h.output,Nat.le_trans h.size k.size,fun i hi h1 h2=>(k.block i (Nat.lt_of_lt_of_le hi h.size) h1 (by
  rcases hv with e|⟨g,e,hg⟩
  ·rw [e];exact h2
  ·rw [e];intro e;injection e with e;omega)).trans (h.block i hi h1 h2)⟩
theorem KB.of_below {W W':World} (h:Below W.heap.size W W') (b:Nat) (v:Value):KB W W' b v:=⟨h.os,h.tape,h.output,h.size,fun k hk _ _=>h.block k hk⟩
theorem hat_then {W W1:World} {v v1 v2:Value} (hs:W.heap.size≤W1.heap.size) (h:v1.ownBlock=v.ownBlock∨∃ g,v1.ownBlock=some g∧W.heap.size≤g) (k:v2.ownBlock=v1.ownBlock∨∃ g,v2.ownBlock=some g∧W1.heap.size≤g):v2.ownBlock=v.ownBlock∨∃ g,v2.ownBlock=some g∧W.heap.size≤g:=by
 rcases k with k|⟨g,k,hg⟩
 ·rw [k];exact h
 ·exact .inr ⟨g,k,Nat.le_trans hs hg⟩
/-- where the row lies behind bytes that were appended -/
theorem str_hat (w:World) (base:Nat) (t u ty e:TypeId) (i:TypeInfo) (ht:Tryz.prog.underlying t=some (.slice e)) (hu:Tryz.prog.underlying u=some .string) (hi:Tryz.prog.info? e=some i) (hz:i.zero=some (.int .u8 0))
  (hsize:i.size=1) (hby:i.bytes=1) (v:Value) (n:Nat) (xs:List Value) (hown:w.ownsRowF base e 1 v n xs) (s:ByteArray) (h63:n+s.size≤maxLen) (hbytes:n+s.size≤140737488355328) (hbase:base≤w.heap.size) :
  ∃ v' w',(Builtin.append_ #[t,u] ty #[v,.string s]).run Tryz.prog w = .ok v' w'∧w'.ownsRowF base e 1 v' (n+s.size) (xs++Lib.strCells s)∧w.grownBy w' v.ownBlock∧(v'.ownBlock=v.ownBlock∨∃ g,v'.ownBlock=some g∧w.heap.size≤g):=by
 obtain ⟨v',w',h1,h2,h3,_⟩:=Lib.run_append_own_stringF (P:=Tryz.prog) w base t u ty e i ht hu hi hz hsize hby v n xs hown s h63 hbytes hbase
 refine ⟨v',w',h1,h2,h3,?_⟩
 have hsmall:n+s.size≤9223372036854775807:=by simp only [maxLen] at h63;omega
 rcases hown.2 with ⟨rfl,rfl⟩|⟨g,cap,cur,fz,rfl,hbg,hg,hfz,hnc,hcm,hcs,htake⟩
 ·obtain ⟨v2,w2,g1,g2,_,_⟩:=Lib.run_append_own_stringF (P:=Tryz.prog) w w.heap.size t u ty e i ht hu hi hz hsize hby (.slice none 0 0) 0 xs ⟨hown.1,.inl ⟨rfl,rfl⟩⟩ s h63 hbytes (Nat.le_refl _)
  rw [h1] at g1
  injection g1 with g1 _
  subst g1
  cases hv:v'.ownBlock with
  | none=>exact .inl rfl
  | some k=>exact .inr ⟨k,rfl,(g2.lt k hv).1⟩
 ·have hxl:xs.length=n:=by simpa using hown.1
  by_cases hroom:n+s.size≤cap
  ·have hr:=Lib.run_append_room_stringF (P:=Tryz.prog) w t u ty e i ht hu hi hsize g n cap cur fz hg (by simpa using hfz) s hroom (by simp at hcs;omega)
   rw [h1] at hr
   injection hr with hr _
   subst hr
   exact .inl rfl
  ·have holds:∀ j u,xs[j]?=some u→w.cell? ((⟨g,0,none⟩:Addr).add j)=some u:=hown.cells (g:=g) rfl
   have hr:=Lib.run_append_grow_string (P:=Tryz.prog) w t u ty e i (.int .u8 0) ht hu hi hz ⟨g,0,none⟩ n cap xs (by rw [hsize];simpa using hxl) holds s (by omega) (by omega) (by rw [hby];exact growslice_fits (by omega) (by omega))
   rw [h1] at hr
   injection hr with hr _
   subst hr
   exact .inr ⟨_,rfl,Nat.le_refl _⟩
theorem byte_info:(Tryz.prog.info? 5).map (fun i=>(i.zero,i.size,i.bytes))=some (some (.int .u8 0),1,1):=by kernel_rfl
/-- the operation, for the walk -/
theorem wp_append_str {ops:Array Oper} {rest:List Oper} {o:Oper} {a:Act} {w:World} {Q:Exit→Act→World→Prop} (hgd:o.guard=none) (sl x:Operand) 
  (ho:o.op = .call { callee:=.builtin .append,args:=#[sl,x],argTypes:=#[30,9] }) (base b:Nat) (p v:Value) (l:List UInt8) (hs:a.eval sl=v) (hown:BP base b p v l w) (s:ByteArray) (hx:a.eval x = .string s)
  (hlen:l.length+s.size≤140737488355328) (hbase:base≤w.heap.size)
  (h:∀ v' w',BP base b p v l w→w'.heap[b]?=some (.cells #[p,v] 84 (0,0))→w'.ownsRowF base 5 1 v' (l++s.data.toList).length (Lib.byteCells (l++s.data.toList))→w.grownBy w' v.ownBlock→(v'.ownBlock=v.ownBlock∨∃ g,v'.ownBlock=some g∧w.heap.size≤g)→wpList Tryz.prog ops Q rest (a.put o.dst v') w'):wpList Tryz.prog ops Q (o :: rest) a w:=by
 obtain ⟨i0,hi,hz0,hz1,hz2⟩:=info_parts byte_info
 refine wpList_plain hgd fun K hK=>?_
 obtain ⟨v',w',hr,h2,h3,h4⟩:=str_hat w base 30 9 o.type 5 i0 Tryz.underlying30 Tryz.underlying9 hi hz0 hz1 hz2 v l.length (Lib.byteCells l) hown.2.2.1 s (by unfold maxLen;omega) hlen hbase
 unfold Oper.wp execOp
 simp only [ho,resolve,invoke,builtin,Sem.run_bind,Sem.run_pure,Result.andThen_ok,List.map_toArray,List.map_cons,List.map_nil,hs,hx,hr]
 refine hK _ _ (h v' w' hown ((h3.block b hown.lt (fun e=>hown.2.2.2 e.symm)).trans hown.2.1) ?_ h3 h4)
 rw [Lib.byteCells_append,← Lib.strCells_eq,List.length_append,← Lib.size_eq]
 exact h2
set_option maxHeartbeats 2000000 in
set_option maxRecDepth 100000 in
theorem write_used (base b:Nat) (v:Value) (l:List UInt8) (s:ByteArray) (W0 W:World) (h:BP base b (.pointer (some ⟨b,0,none⟩)) v l W) (hlen:l.length+s.size≤140737488355328)
  (hc:Calls Tryz.prog 107 #[.pointer (some ⟨b,0,none⟩)] W0 fun e w'=>e = .returned (.tuple #[])∧W=w') :
  Calls Tryz.prog 85 #[.pointer (some ⟨b,0,none⟩),.string s] W0 fun e w'=>e = .returned (.tuple #[.int .i64 s.size,.nilIface])∧∃ v',BP base b (.pointer (some ⟨b,0,none⟩)) v' (l++s.data.toList) w'∧KB W w' b v∧(v'.ownBlock=v.ownBlock∨∃ g,v'.ownBlock=some g∧W.heap.size≤g):=by
 have H:=Aside0.mk h
 have HC:=Aside0.mk hc
 have hsz:s.size≤9223372036854775807:=by omega
 have hbw:base≤W.heap.size:=by have:=h.1;have:=h.lt;omega
 have c1:W.cell? ⟨b,1,none⟩=some v:=by rw [Lib.cell_of_heap h.2.1];rfl
 clear h hc
 go_enter Tryz.func85,Tryz.ntmps85
 go_wp2_with (first
  | (go_at_call 107;(with_reducible refine HC.out.mono ?_);rintro e w1 ⟨rfl,rfl⟩)
  | (at_builtin;refine wp_append_str rfl _ _ rfl base b _ _ l rfl H.out s rfl hlen hbw ?_))
 intro v' w2 h0 h1 h2 h3 h4
 have hb:=h0.1
 clear h0
 have HG:=Aside0.mk h3
 have HH:=Aside0.mk h4
 have HO:=Aside0.mk h2
 have HB2:=Aside0.mk h1
 have f1:w2.frozen? ⟨b,1,none⟩=false:=Lib.frozen_of_heap h1 1
 have d1:w2.cell? ⟨b,1,none⟩=some v:=by rw [Lib.cell_of_heap h1];rfl
 clear h1 h2 h3 h4
 obtain ⟨ao,n',cap,rfl⟩:∃ ao n' cap,v' = .slice ao n' cap:=by
  rcases HO.out.2 with ⟨hv,_⟩|⟨g,cap,cur,fz,hv,_⟩
  ·exact ⟨_,_,_,hv⟩
  ·exact ⟨_,_,_,hv⟩
 go_wp2
 go_ret2
 refine ⟨rfl,_,⟨hb,?_,?_,?_⟩,((KB.refl W b v).grown HG.out).set 1 _,HH.out⟩
 ·have:=HB2.out
  simp [World.setCell,Array.getElem?_modify,this]
 ·rw [show (l++s.data.toList).length=l.length+s.size by rw [List.length_append,← Lib.size_eq]]
  exact own_set HO.out (Lib.ownBlock_neF HO.out HB2.out (by decide)) 1 _
 ·exact Lib.ownBlock_neF HO.out HB2.out (by decide)
/-- WriteString: the bytes go in behind -/
theorem write_any (base b:Nat) (v:Value) (l:List UInt8) (s:ByteArray) (W:World) (h:BS base b v l W) (hlen:l.length+s.size≤140737488355328) :
  Calls Tryz.prog 85 #[.pointer (some ⟨b,0,none⟩),.string s] W fun e w'=>e = .returned (.tuple #[.int .i64 s.size,.nilIface])∧∃ v',BS base b v' (l++s.data.toList) w'∧KB W w' b v∧(v'.ownBlock=v.ownBlock∨∃ g,v'.ownBlock=some g∧W.heap.size≤g):=by
 obtain ⟨p,hp|hp,h⟩:=h
 ·subst hp
  refine (write_used base b v l s W _ (h.used _) hlen (copyCheck_fresh base b v l W h)).mono ?_
  rintro e w' ⟨he,v',h1,h2,h3⟩
  refine ⟨he,v',⟨_,.inr rfl,h1⟩,((KB.refl W b v).set 0 _).then_ h2 (.inl rfl),?_⟩
  rcases h3 with h3|⟨g,h3,h4⟩
  ·exact .inl h3
  ·exact .inr ⟨g,h3,by simpa [World.setCell] using h4⟩
 ·subst hp
  refine (write_used base b v l s W W h hlen (copyCheck_used base b v l W h)).mono ?_
  rintro e w' ⟨he,v',h1,h2,h3⟩
  exact ⟨he,v',⟨_,.inr rfl,h1⟩,h2,h3⟩

/-! ### text -/
def textL (f:List Cat.Cell→Option (List UInt8)):Bool→List (List Cat.Cell)→Option (List UInt8)
 | _,[]=>some []
 | first,a :: as_=>(f a).bind fun x=>(textL f false as_).bind fun y=>some ((if first=true then 40 else 44) :: (x++y))
def textF (K:Nat):Nat→List Cat.Cell→Option (List UInt8)
 | 0,_=>none
 | _+1,[]=>none
 | k+1,c :: r=>if (-9223372036854775808≤c.f1∧c.f1≤9223372036854775807)∧(c.f0=1∨c.f0=2∨c.f0=3) then
   (impl_args.f K (c :: r)).bind fun as_=>(textL (textF K k) true as_).bind fun m=>(impl_TrmCell_arity.f c.f0 c.f1 c.f2).bind fun n=>some (Cat.word c++(m++if 0<n then [41] else []))
  else none
/-- the table that Itoa reads, whatever is done from block B on -/
def TabB (B : Nat) (W : World) : Prop := Lib.TabBelow Tryz.prog B W "internal/strconv.uint64pow10" .u64 Lib.pow10Tab
def TabT (W:World):Prop:=TabB W.heap.size W
theorem TabB.step {B:Nat} {W W':World} (h:TabB B W) (hb:Below B W W'):TabB B W':=fun w2 h2=>h w2 (hb.trans h2)
theorem TabT.below {W W':World} (h:TabT W) (hb:Below W.heap.size W W'):TabT W':=fun w2 h2=>h w2 (hb.trans (h2.mono hb.size))
theorem itoa_calls (n:Int) (h0:-9223372036854775808≤n) (h1:n≤9223372036854775807) (B:Nat) (W:World) (hT:TabB B W) :
  Calls Tryz.prog 86 #[.int .i64 n] W fun e w'=>e = .returned (.string ⟨(Lib.itoa n).toArray⟩)∧Below W.heap.size W w':=by
 refine (Tryz.strconv_Itoa n h0 h1 W (hT W (Below.refl _ _))).mono ?_
 rintro e w' ⟨h,k,os,rfl⟩
 exact ⟨h,Lib.below_grow _ W (Nat.le_refl _) k os⟩
/-- what text leaves: the bytes behind those that there were -/
def TS (B b:Nat) (v:Value) (W:World) (l:List UInt8) (w':World):Prop:=∃ v',BS B b v' l w'∧KB W w' b v∧(v'.ownBlock=v.ownBlock∨∃ g,v'.ownBlock=some g∧W.heap.size≤g)
theorem TS.mk0 {B b:Nat} {v:Value} {W:World} {l:List UInt8} (h:BS B b v l W):TS B b v W l W:=⟨v,h,KB.refl _ _ _,.inl rfl⟩
theorem TS.step {B b:Nat} {v:Value} {W w1 w2:World} {l:List UInt8} (h:TS B b v W l w1) (hb:Below w1.heap.size w1 w2):TS B b v W l w2:=by
 obtain ⟨v1,h1,h2,h3⟩:=h
 exact ⟨v1,h1.below hb,h2.then_ (KB.of_below hb b v1) h3,h3⟩
theorem TS.size {B b:Nat} {v:Value} {W w1:World} {l:List UInt8} (h:TS B b v W l w1):W.heap.size≤w1.heap.size:=by
 obtain ⟨v1,h1,h2,h3⟩:=h
 exact h2.size
theorem TS.write {B b:Nat} {v:Value} {W w1:World} {l:List UInt8} (h:TS B b v W l w1) (s:ByteArray) (m:List UInt8) (hm:s.data.toList=m) (hlen:l.length+m.length≤140737488355328) :
  Calls Tryz.prog 85 #[.pointer (some ⟨b,0,none⟩),.string s] w1 fun e w'=>e = .returned (.tuple #[.int .i64 s.size,.nilIface])∧TS B b v W (l++m) w':=by
 subst hm
 obtain ⟨v1,h1,h2,h3⟩:=h
 refine (write_any B b v1 l s w1 h1 (by rw [← Lib.size_eq] at hlen;exact hlen)).mono ?_
 rintro e w' ⟨he,v',g1,g2,g3⟩
 exact ⟨he,v',g1,h2.then_ g2 h3,hat_then h2.size h3 g3⟩
theorem TS.foot {B b:Nat} {v:Value} {W w1:World} {l:List UInt8} (h:TS B b v W l w1) {ok:Nat→Prop} (hok:∀ k,ok k→k≠b∧some k≠v.ownBlock) {A:Option Addr} {n:Nat} {t:List Cat.Cell} (hF:Kd.F k63 W ok A n t) :
  Kd.F k63 w1 ok A n t:=by
 obtain ⟨v1,h1,h2,h3⟩:=h
 exact Kd.F_step hF (fun k hk hlt=>h2.block k hlt (hok k hk).1 (hok k hk).2)
theorem TS.tab {B b:Nat} {v:Value} {W w1:World} {l l0:List UInt8} (h:TS B b v W l w1) (hb:BS B b v l0 W) (hT:TabB B W):TabB B w1:=by
 obtain ⟨v1,h1,h2,h3⟩:=h
 exact hT.step (h2.below hb)
/-- arguments in memory beside the builder -/
def TRows (W:World) (ok:Nat→Prop) (v:Value) (ls:List (List Cat.Cell)):Prop:=∃ base,Kd.N (Kd.slice 63 k63) 22 W base ok v ls
theorem TS.rows {B b:Nat} {v:Value} {W w1:World} {l:List UInt8} (h:TS B b v W l w1) {ok:Nat→Prop} (hok:∀ k,ok k→k≠b∧some k≠v.ownBlock) {va:Value} {ls:List (List Cat.Cell)} (hF:TRows W ok va ls):TRows w1 ok va ls:=by
 obtain ⟨v1,h1,h2,h3⟩:=h
 obtain ⟨base,hN⟩:=hF
 exact ⟨base,Kd.N_step hN (fun k hk hlt=>h2.block k hlt (hok k hk).1 (hok k hk).2)⟩
theorem TRows.below {W W':World} {ok:Nat→Prop} {va:Value} {ls:List (List Cat.Cell)} (h:TRows W ok va ls) (hb:Below W.heap.size W W'):TRows W' ok va ls:=by
 obtain ⟨base,hN⟩:=h
 exact ⟨base,Kd.N_below hN hb⟩
theorem TRows.at_ {W:World} {ok:Nat→Prop} {A:Option Addr} {n c:Nat} {ls:List (List Cat.Cell)} (h:TRows W ok (.slice A n c) ls) (j:Nat) (hj:j<ls.length):n=ls.length∧∃ ad A1 c1,A=some ad∧W.cell? (ad.add j)=some (.slice A1 (ls[j]).length c1)∧(ls[j]).length≤c1∧Kd.F k63 W ok A1 (ls[j]).length (ls[j]):=by
 obtain ⟨base,h⟩:=h
 obtain ⟨e1,_,_⟩:=Kd.N_reads' h
 obtain ⟨g,cap,e2,_⟩:=Kd.N_form h (by omega)
 injection e2 with e2 e3 e4
 subst e2 e4
 obtain ⟨cs,hcl,hM,hcc⟩:=Kd.N_get h [] (j:Int) (by omega) (by omega)
 rw [Int.toNat_natCast] at hM hcc
 have eg:ls.getD j []=ls[j]:=by simp [List.getD,hj]
 rw [eg] at hM
 obtain ⟨A1,c1,rfl,ul,ge⟩:=Kd.FK_slice_open hM
 have hv:=hcc 0 _ rfl
 rw [Nat.add_zero,show (Kd.slice 63 k63).sz=1 from rfl,Nat.mul_one] at hv
 exact ⟨e1,_,A1,c1,rfl,hv,ul,Kd.F_mono ge (fun k hk=>hk.1)⟩
theorem targs_calls (W:World) (ok:Nat→Prop) (K:Nat) (c0:Cat.Cell) (t:List Cat.Cell) (A:Option Addr) (c:Nat) (r:List (List Cat.Cell)) (hl:(c0 :: t).length≤c) (hF:Kd.F k63 W ok A (c0 :: t).length (c0 :: t)) (h:impl_args.f K (c0 :: t)=some r) :
  Calls Tryz.prog 87 #[.slice A (t.length+1) c] W fun e w'=>∃ A' c',e = .returned (.slice A' r.length c')∧TRows w' (fun k=>(ok k∨W.heap.size≤k)∧k<w'.heap.size) (.slice A' r.length c') r∧r.length≤9223372036854775807∧Below W.heap.size W w':=by
 refine (impl_args.calls K ok A c (c0 :: t) r W (Kd.V_mk hl hF) h).mono ?_
 rintro e w' ⟨v,rfl,hn,hb⟩
 obtain ⟨A',c',rfl⟩:=Kd.N_slice hn
 exact ⟨A',c',rfl,⟨_,Kd.N_bound hn⟩,(Kd.N_reads' hn).2.2.2.1,hb⟩
theorem thead_cells (c:Cat.Cell) (l:List Cat.Cell) (W:World) (A:Option Addr) (h:Kd.C k63 W A (c :: l).length (c :: l)):∃ ad:Addr,A=some ad∧W.cell? ad=some (.int .i64 c.f0)∧W.cell? ⟨ad.block,ad.off+1,none⟩=some (.int .i64 c.f1)∧W.cell? ⟨ad.block,ad.off+2,none⟩=some (.string c.f2):=by
 obtain ⟨ad,e1,h0,h1,h2⟩:=at_T63 h 0 (Int.le_refl _) (by rw [List.length_cons];omega)
 exact ⟨ad,e1,h0,h1,h2⟩
def TLoop (B b:Nat) (v:Value) (w4:World) (okE:Nat→Prop) (K k:Nat) (va:Value) (as_:List (List Cat.Cell)) (l m:List UInt8) (j:Nat) (wr:World):Prop:=
 ∃ m1 m2,TS B b v w4 (l++m1) wr∧TRows wr okE va as_∧textL (textF K k) (decide (j=0)) (as_.drop j)=some m2∧m=m1++m2
def TextP (K B b:Nat) (k:Nat):Prop:=∀ (t:List Cat.Cell) (r l:List UInt8) (v:Value) (ok:Nat→Prop) (A:Option Addr) (c:Nat) (W:World),textF K k t=some r→BS B b v l W→TabB B W→(∀ k,ok k→k≠b∧some k≠v.ownBlock)→Kd.F k63 W ok A t.length t→t.length≤c→l.length+r.length≤140737488355328→
  Calls Tryz.prog 60 #[.pointer (some ⟨b,0,none⟩),.slice A t.length c] W fun e w'=>e = .returned (.tuple #[])∧TS B b v W (l++r) w'
theorem TS.call {K B b k:Nat} {v:Value} {W w1:World} {l r:List UInt8} {ok:Nat→Prop} {t:List Cat.Cell} {A:Option Addr} {c:Nat} {l0:List UInt8} (ih:TextP K B b k) (h:TS B b v W l w1) (hb:BS B b v l0 W) (hT:TabB B W) (hok:∀ k,ok k→k≠b∧some k≠v.ownBlock∧k<W.heap.size) (hF:Kd.F k63 w1 ok A t.length t) (hc:t.length≤c) (hr:textF K k t=some r) (hlen:l.length+r.length≤140737488355328) :
  Calls Tryz.prog 60 #[.pointer (some ⟨b,0,none⟩),.slice A t.length c] w1 fun e w'=>e = .returned (.tuple #[])∧TS B b v W (l++r) w':=by
 have hT1:=h.tab hb hT
 obtain ⟨v1,h1,h2,h3⟩:=h
 refine (ih t r l v1 ok A c w1 hr h1 hT1 (fun k hk=>⟨(hok k hk).1,?_⟩) hF hc hlen).mono ?_
 ·obtain ⟨_,q1,q2⟩:=hok k hk
  rcases h3 with e|⟨g,e,hg⟩
  ·rw [e];exact q1
  ·rw [e];intro e;injection e with e;omega
 ·rintro e w' ⟨he,v2,g1,g2,g3⟩
  exact ⟨he,v2,g1,h2.then_ g2 h3,hat_then h2.size h3 g3⟩
theorem text_start {B b:Nat} {v:Value} {W w2 w4:World} {l l1:List UInt8} {ok:Nat→Prop} (hs:TS B b v W l1 w2) (hb:BS B b v l W) (hT:TabB B W) (hok:∀ k,ok k→k≠b∧some k≠v.ownBlock) (h4:Below w2.heap.size w2 w4) :
  ∃ v4,BS B b v4 l1 w4∧TabB B w4∧(∀ k,(((ok k∧k<W.heap.size)∨w2.heap.size≤k)∧k<w4.heap.size)→k≠b∧some k≠v4.ownBlock∧k<w4.heap.size)∧KB W w4 b v∧(v4.ownBlock=v.ownBlock∨∃ g,v4.ownBlock=some g∧W.heap.size≤g):=by
 have hT2:=hs.tab hb hT
 obtain ⟨v4,g1,g2,g3⟩:=hs
 refine ⟨v4,g1.below h4,hT2.step (h4.mono (by obtain ⟨p,_,q⟩:=g1;have:=q.1;have:=q.lt;omega)),fun k hk=>?_,g2.then_ (KB.of_below h4 b v4) g3,g3⟩
 have hl4:=g1.own_lt
 have hl1:=g1.lt
 refine ⟨?_,?_,hk.2⟩
 ·rcases hk.1 with ⟨q,_⟩|q
  ·exact (hok k q).1
  ·omega
 ·intro e
  rcases hk.1 with ⟨q,q1⟩|q
  ·rcases g3 with g3|⟨g,g3,g4⟩
   ·exact (hok k q).2 (by rw [← g3];exact e)
   ·rw [g3] at e;injection e with e;omega
  ·have:=(hl4 k e.symm).2;omega
theorem TS.up {B b:Nat} {v v4:Value} {W w4 wr:World} {l:List UInt8} (h:TS B b v4 w4 l wr) (hk:KB W w4 b v) (hv:v4.ownBlock=v.ownBlock∨∃ g,v4.ownBlock=some g∧W.heap.size≤g):TS B b v W l wr:=by
 obtain ⟨v1,g1,g2,g3⟩:=h
 exact ⟨v1,g1,hk.then_ g2 hv,hat_then hk.size hv g3⟩
theorem TS.same {B b:Nat} {v4:Value} {w4 wr w6:World} {l l':List UInt8} (h:TS B b v4 w4 l wr) (h':TS B b v4 w4 l' w6) {okE:Nat→Prop} (hok:∀ k,okE k→k≠b∧some k≠v4.ownBlock∧k<w4.heap.size):∀ k,okE k→w6.heap[k]?=wr.heap[k]?:=by
 obtain ⟨v1,g1,g2,g3⟩:=h
 obtain ⟨v2,k1,k2,k3⟩:=h'
 exact fun k hk=>(k2.block k (hok k hk).2.2 (hok k hk).1 (hok k hk).2.1).trans (g2.block k (hok k hk).2.2 (hok k hk).1 (hok k hk).2.1).symm
theorem TRows.same {wr w6:World} {okE:Nat→Prop} {va:Value} {ls:List (List Cat.Cell)} (h:TRows wr okE va ls) (hs:∀ k,okE k→w6.heap[k]?=wr.heap[k]?):TRows w6 okE va ls:=by
 obtain ⟨base,hN⟩:=h
 exact ⟨base,Kd.N_step hN (fun k hk _=>hs k hk)⟩
theorem TLoop.next {B b:Nat} {v4:Value} {w4 wr w7:World} {okE:Nat→Prop} {K k:Nat} {va:Value} {as_:List (List Cat.Cell)} {l m m1 x y:List UInt8} {s:UInt8} {j:Nat} (h1:TS B b v4 w4 (l++m1) wr) (h2:TRows wr okE va as_) (hok:∀ k,okE k→k≠b∧some k≠v4.ownBlock∧k<w4.heap.size)
  (h7:TS B b v4 w4 (l++m1++[s]++x) w7) (h4:textL (textF K k) false (as_.drop (j+1))=some y) (hm:m=m1++(s :: (x++y))):TLoop B b v4 w4 okE K k va as_ l m (j+1) w7:=by
 refine ⟨m1++s :: x,y,?_,h2.same (h1.same h7 hok),?_,?_⟩
 ·have e:l++(m1++s :: x)=l++m1++[s]++x:=by simp
  rw [e];exact h7
 ·rw [show decide (j+1=0)=false by simp];exact h4
 ·rw [hm];simp
/-- what a round of text's loop is given -/
theorem TLoop.open_ {B b:Nat} {v4:Value} {w4 wr:World} {okE:Nat→Prop} {K k:Nat} {A:Option Addr} {n c:Nat} {as_:List (List Cat.Cell)} {l m:List UInt8} {j:Nat} (h:TLoop B b v4 w4 okE K k (.slice A n c) as_ l m j wr) (hlt:j<as_.length) :
  ∃ m1 x y ad A1 c1,TS B b v4 w4 (l++m1) wr∧TRows wr okE (.slice A n c) as_∧textF K k as_[j]=some x∧textL (textF K k) false (as_.drop (j+1))=some y∧m=m1++((if j=0 then 40 else 44) :: (x++y))∧A=some ad∧wr.cell? (ad.add j)=some (.slice A1 (as_[j]).length c1)∧(as_[j]).length≤c1∧Kd.F k63 wr okE A1 (as_[j]).length (as_[j]):=by
 obtain ⟨m1,m2,h1,h2,h3,h4⟩:=h
 rw [List.drop_eq_getElem_cons hlt,textL] at h3
 obtain ⟨x,hx,h3⟩:=Option.bind_eq_some_iff.1 h3
 obtain ⟨y,hy,h3⟩:=Option.bind_eq_some_iff.1 h3
 obtain rfl:=Option.some.inj h3
 obtain ⟨_,ad,A1,c1,e,hc,hl,hF⟩:=h2.at_ j hlt
 refine ⟨m1,x,y,ad,A1,c1,h1,h2,hx,hy,?_,e,hc,hl,hF⟩
 rw [h4]
 by_cases h0:j=0 <;> simp [h0]
set_option maxHeartbeats 16000000 in
set_option maxRecDepth 100000 in
theorem impl_text.any (K B b:Nat):∀ k,TextP K B b k:=by
 intro k
 induction k with
 | zero=>intro t r l v ok A c W h;cases h
 | succ k ih=>
  intro t r l v ok A c W h hbs hT hok hF hc hlen
  cases t with
  | nil=>cases h
  | cons c0 t=>
  rw [textF] at h
  by_cases hcond:(-9223372036854775808≤c0.f1∧c0.f1≤9223372036854775807)∧(c0.f0=1∨c0.f0=2∨c0.f0=3)
  case neg=>rw [if_neg hcond] at h;cases h
  rw [if_pos hcond] at h
  obtain ⟨as_,ha,h⟩:=Option.bind_eq_some_iff.1 h
  obtain ⟨m,hm,h⟩:=Option.bind_eq_some_iff.1 h
  obtain ⟨n,hn,h⟩:=Option.bind_eq_some_iff.1 h
  obtain rfl:=Option.some.inj h
  obtain ⟨ad,eA,hx0,hx1,hx2⟩:=thead_cells c0 t W A (Kd.F_now hF)
  subst eA
  have hBW:B≤W.heap.size:=by obtain ⟨p,_,h1⟩:=hbs;have:=h1.1;have:=h1.lt;omega
  have hn1:=hcond.1.1
  have hn2:=hcond.1.2
  simp only [List.length_append] at hlen
  have HA:=Aside0.mk ha
  have HM:=Aside0.mk hm
  have HN:=Aside0.mk hn
  have HI:=Aside0.mk ih
  have HBS:=Aside0.mk hbs
  have HT:=Aside0.mk hT
  have HOK:=Aside0.mk hok
  have HOKB:=Aside0.mk (show ∀ k,(ok k∧k<W.heap.size)→k≠b∧some k≠v.ownBlock from fun k hk=>hok k hk.1)
  have HF:=Aside0.mk (Kd.F_bound hF)
  have HC:=Aside0.mk hc
  have HLEN:=Aside0.mk hlen
  have HTS0:=Aside0.mk (TS.mk0 hbs)
  have HBW:=Aside0.mk hBW
  have hpos:0<t.length+1:=by omega
  have hk:=hcond.2
  clear h ha hm hn ih hbs hT hok hF hc hlen hcond hBW
  have HW1:=Aside0.mk (show c0.f0=1→((⟨#[88]⟩:ByteArray)++(⟨(Lib.itoa c0.f1).toArray⟩:ByteArray)).data.toList=Cat.word c0 from fun h=>by rw [Cat.word,if_pos h,ByteArray.data_append];simp)
  have HW2:=Aside0.mk (show c0.f0=2→(⟨(Lib.itoa c0.f1).toArray⟩:ByteArray).data.toList=Cat.word c0 from fun h=>by rw [Cat.word,if_neg (by omega),if_pos h])
  have HW3:=Aside0.mk (show c0.f0=3→c0.f2.data.toList=Cat.word c0 from fun h=>by rw [Cat.word,if_neg (by omega),if_neg (by omega)])
  have HL1:=Aside0.mk (show l.length+(Cat.word c0).length≤140737488355328 by have:=HLEN.out;omega)
  have hil:=Lib.itoa_length_le c0.f1 hn1 hn2
  have hs1:(9223372036854775807<1+(Lib.itoa c0.f1).length)=False:=eq_false (by omega)
  clear hil
  rcases hk with hk|hk|hk
  ·have t1:(c0.f0 == 1)=true:=by simpa using hk
   have HK:=Aside0.mk hk
   clear hk
   go_enter Tryz.func60,Tryz.ntmps60
   go_wp2_with (first
    | (go_at_call 86;(with_reducible refine (itoa_calls c0.f1 hn1 hn2 B _ (HT.out.step ((below_alloc (Below.refl _ _) _).mono HBW.out))).mono ?_);rintro e w1 ⟨rfl,hb1⟩;have HS1:=Aside0.mk ((HTS0.out.step (below_alloc (Below.refl _ _) _)).step hb1);clear hb1)
    | (go_at_call 85;(with_reducible refine (HS1.out.write _ (Cat.word c0) (HW1.out HK.out) HL1.out).mono ?_);rintro e w2 ⟨rfl,hs2⟩;have HS2:=Aside0.mk hs2;clear hs2)
    | (go_at_call 87;(with_reducible refine (targs_calls w2 (fun k=>ok k∧k<W.heap.size) K c0 t (some ad) c as_ HC.out (HS2.out.foot HOKB.out HF.out) HA.out).mono ?_);rintro e w4 ⟨Aa,ca,rfl,hR4,hm4,hb4⟩;have HR4:=Aside0.mk hR4;have HB4:=Aside0.mk hb4;clear hR4 hb4))
   obtain ⟨v4,hq1,hq2,hq3,hq4,hq5⟩:=text_start HS2.out HBS.out HT.out HOK.out HB4.out
   have HB4S:=Aside0.mk hq1
   have HT4:=Aside0.mk hq2
   have HOKE:=Aside0.mk hq3
   have HKB4:=Aside0.mk hq4
   have HHAT:=Aside0.mk hq5
   have HLP:=Aside0.mk (show TLoop B b v4 w4 (fun k_=>((ok k_∧k_<W.heap.size)∨w2.heap.size≤k_)∧k_<w4.heap.size) K k (.slice Aa as_.length ca) as_ (l++Cat.word c0) m 0 w4 from
    ⟨[],m,by rw [List.append_nil];exact TS.mk0 hq1,HR4.out,HM.out,rfl⟩)
   clear hq1 hq2 hq3 hq4 hq5 HS1 HS2 HR4 HM HA HW1 HW2 HW3
   go_loopg [5,6,36] as_.length (fun gg _ _ s36 wr=>∃ j:Nat,j≤as_.length∧as_.length - j≤gg∧s36 = .int .i64 j∧Aside0 (TLoop B b v4 w4 (fun k_=>((ok k_∧k_<W.heap.size)∨w2.heap.size≤k_)∧k_<w4.heap.size) K k (.slice Aa as_.length ca) as_ (l++Cat.word c0) m j wr))
   case atStart=>exact ⟨0,Nat.zero_le _,by omega,rfl,HLP⟩
   case round=>
    obtain ⟨j,hj,hgg,rfl,HLj⟩:=hrel
    by_cases hlt:j<as_.length
    ·have hltz:(j:Int)<(as_.length:Int):=by omega
     obtain ⟨m1,x,y,ada,A1,c1,h1,h2,h3,h4,h5,h6,h7,h8,h9⟩:=HLj.out.open_ hlt
     subst h6
     have R1:=Aside0.mk h1
     have R2:=Aside0.mk h2
     have R3:=Aside0.mk h3
     have R4:=Aside0.mk h4
     have R5:=Aside0.mk h5
     have R8:=Aside0.mk h8
     have R9:=Aside0.mk h9
     generalize as_[j]=a1 at h7 R3 R8 R9
     clear h1 h2 h3 h4 h5 h8 h9
     by_cases hj0:j=0
     ·have hjz:(j:Int)<1:=by omega
      have HJ:=Aside0.mk hj0
      clear hj0
      have hsep:(wr.alloc (Obj.cells #[Value.string ⟨#[40]⟩,Value.string ⟨#[44]⟩] 9)).cell? ⟨wr.heap.size,j,none⟩=some (.string ⟨#[40]⟩):=by rw [HJ.out,Lib.cell_of_heap (heap_alloc_new wr _)];rfl
      have HL6:=Aside0.mk (show (l++Cat.word c0++m1).length + [(40:UInt8)].length≤140737488355328 by
       have h1:=HLEN.out;have h2:=congrArg List.length R5.out
       simp only [List.length_append,List.length_cons,List.length_nil] at h1 h2 ⊢;omega)
      have HL7:=Aside0.mk (show (l++Cat.word c0++m1++[(40:UInt8)]).length+x.length≤140737488355328 by
       have h1:=HLEN.out;have h2:=congrArg List.length R5.out
       simp only [List.length_append,List.length_cons,List.length_nil] at h1 h2 ⊢;omega)
      go_wp2_with (first
       | (go_at_call 85;(with_reducible refine ((R1.out.step (below_alloc (Below.refl _ _) _)).write _ [40] ?_ HL6.out).mono ?_);rfl;rintro e w6 ⟨rfl,hs6⟩;have HS6:=Aside0.mk hs6;clear hs6)
       | (go_at_call 60;(with_reducible refine (TS.call (r:=x) HI.out HS6.out HB4S.out HT4.out HOKE.out (Kd.F_step R9.out (fun k_ hk_ _=>R1.out.same HS6.out HOKE.out k_ hk_)) R8.out R3.out HL7.out).mono ?_);rintro e w7 ⟨rfl,hs7⟩;have HS7:=Aside0.mk hs7;clear hs7))
      go_roundg (as_.length - (j+1))
      case measure=>omega
      case rel=>exact ⟨j+1,by omega,by omega,by go_num,⟨TLoop.next R1.out R2.out HOKE.out HS7.out R4.out (by have:=R5.out;rw [if_pos HJ.out] at this;exact this)⟩⟩
     ·by_cases hj1:j=1
      ·have hjz:¬ (1:Int)<(j:Int):=by omega
       have hsep:(wr.alloc (Obj.cells #[Value.string ⟨#[40]⟩,Value.string ⟨#[44]⟩] 9)).cell? ⟨wr.heap.size,j,none⟩=some (.string ⟨#[44]⟩):=by rw [hj1,Lib.cell_of_heap (heap_alloc_new wr _)];rfl
       have HJ:=Aside0.mk hj0
       clear hj0 hj1
       have HL6:=Aside0.mk (show (l++Cat.word c0++m1).length + [(44:UInt8)].length≤140737488355328 by
        have h1:=HLEN.out;have h2:=congrArg List.length R5.out
        simp only [List.length_append,List.length_cons,List.length_nil] at h1 h2 ⊢;omega)
       have HL7:=Aside0.mk (show (l++Cat.word c0++m1++[(44:UInt8)]).length+x.length≤140737488355328 by
        have h1:=HLEN.out;have h2:=congrArg List.length R5.out
        simp only [List.length_append,List.length_cons,List.length_nil] at h1 h2 ⊢;omega)
       go_wp2_with (first
        | (go_at_call 85;(with_reducible refine ((R1.out.step (below_alloc (Below.refl _ _) _)).write _ [44] ?_ HL6.out).mono ?_);rfl;rintro e w6 ⟨rfl,hs6⟩;have HS6:=Aside0.mk hs6;clear hs6)
        | (go_at_call 60;(with_reducible refine (TS.call (r:=x) HI.out HS6.out HB4S.out HT4.out HOKE.out (Kd.F_step R9.out (fun k_ hk_ _=>R1.out.same HS6.out HOKE.out k_ hk_)) R8.out R3.out HL7.out).mono ?_);rintro e w7 ⟨rfl,hs7⟩;have HS7:=Aside0.mk hs7;clear hs7))
       go_roundg (as_.length - (j+1))
       case measure=>omega
       case rel=>exact ⟨j+1,by omega,by omega,by go_num,⟨TLoop.next R1.out R2.out HOKE.out HS7.out R4.out qz147⟩⟩
      ·have hjz:(1:Int)<(j:Int):=by omega
       have HJ:=Aside0.mk hj0
       clear hj0 hj1
       have HL6:=Aside0.mk (show (l++Cat.word c0++m1).length + [(44:UInt8)].length≤140737488355328 by
        have h1:=HLEN.out;have h2:=congrArg List.length R5.out
        simp only [List.length_append,List.length_cons,List.length_nil] at h1 h2 ⊢;omega)
       have HL7:=Aside0.mk (show (l++Cat.word c0++m1++[(44:UInt8)]).length+x.length≤140737488355328 by
        have h1:=HLEN.out;have h2:=congrArg List.length R5.out
        simp only [List.length_append,List.length_cons,List.length_nil] at h1 h2 ⊢;omega)
       go_wp2_with (first
        | (go_at_call 85;(with_reducible refine ((R1.out.step (below_alloc (Below.refl _ _) _)).write _ [44] ?_ HL6.out).mono ?_);rfl;rintro e w6 ⟨rfl,hs6⟩;have HS6:=Aside0.mk hs6;clear hs6)
        | (go_at_call 60;(with_reducible refine (TS.call (r:=x) HI.out HS6.out HB4S.out HT4.out HOKE.out (Kd.F_step R9.out (fun k_ hk_ _=>R1.out.same HS6.out HOKE.out k_ hk_)) R8.out R3.out HL7.out).mono ?_);rintro e w7 ⟨rfl,hs7⟩;have HS7:=Aside0.mk hs7;clear hs7))
       go_roundg (as_.length - (j+1))
       case measure=>omega
       case rel=>exact ⟨j+1,by omega,by omega,by go_num,⟨TLoop.next R1.out R2.out HOKE.out HS7.out R4.out qz147⟩⟩
    ·have hltz:¬ (j:Int)<(as_.length:Int):=by omega
     obtain ⟨m1,m2,h1,h2,h3,h4⟩:=HLj.out
     rw [List.drop_eq_nil_of_le (by omega),textL] at h3
     obtain rfl:=Option.some.inj h3
     rw [List.append_nil] at h4
     subst h4
     have E1:=Aside0.mk (h1.up HKB4.out HHAT.out)
     obtain ⟨ad',ea,hy0,hy1,hy2⟩:=thead_cells c0 t wr (some ad) (Kd.F_now (E1.out.foot HOKB.out HF.out))
     injection ea with ea
     subst ea
     clear h1 h2 h3
     by_cases hn0:0<n
     ·have HN0:=Aside0.mk hn0
      have HL8:=Aside0.mk (show (l++Cat.word c0++m).length + [(41:UInt8)].length≤140737488355328 by
       have h1:=HLEN.out;rw [if_pos hn0] at h1
       simp only [List.length_append,List.length_cons,List.length_nil] at h1 ⊢;omega)
      go_wp2_with (first
       | (go_at_call 88;(with_reducible refine (impl_TrmCell_arity.calls c0.f0 c0.f1 c0.f2 n _ HN.out).mono ?_);rintro e w8 ⟨rfl,hb8⟩;have HS8:=Aside0.mk (E1.out.step hb8);clear hb8)
       | (go_at_call 85;(with_reducible refine (HS8.out.write _ [41] ?_ HL8.out).mono ?_);rfl;rintro e w9 ⟨rfl,hs9⟩;have HS9:=Aside0.mk hs9;clear hs9))
      go_end0
      refine ⟨rfl,?_⟩
      have e:=HS9.out
      simp only [List.append_assoc] at e ⊢
      first|exact e|(rw [if_pos HN0.out];exact e)
     ·have HN0:=Aside0.mk hn0
      go_wp2_with (first
       | (go_at_call 88;(with_reducible refine (impl_TrmCell_arity.calls c0.f0 c0.f1 c0.f2 n _ HN.out).mono ?_);rintro e w8 ⟨rfl,hb8⟩;have HS8:=Aside0.mk (E1.out.step hb8);clear hb8))
      go_end0
      refine ⟨rfl,?_⟩
      have e:=HS8.out
      simp only [List.append_assoc,List.append_nil] at e ⊢
      first|exact e|(rw [if_neg (by have:=HN0.out;omega),List.append_nil];exact e)
  ·have t1:(c0.f0 == 1)=false:=by rw [hk];rfl
   have t2:(c0.f0 == 2)=true:=by simpa using hk
   have HK:=Aside0.mk hk
   clear hk
   go_enter Tryz.func60,Tryz.ntmps60
   go_wp2_with (first
    | (go_at_call 86;(with_reducible refine (itoa_calls c0.f1 hn1 hn2 B _ (HT.out.step ((below_alloc (Below.refl _ _) _).mono HBW.out))).mono ?_);rintro e w1 ⟨rfl,hb1⟩;have HS1:=Aside0.mk ((HTS0.out.step (below_alloc (Below.refl _ _) _)).step hb1);clear hb1)
    | (go_at_call 85;(with_reducible refine (HS1.out.write _ (Cat.word c0) (HW2.out HK.out) HL1.out).mono ?_);rintro e w2 ⟨rfl,hs2⟩;have HS2:=Aside0.mk hs2;clear hs2)
    | (go_at_call 87;(with_reducible refine (targs_calls w2 (fun k=>ok k∧k<W.heap.size) K c0 t (some ad) c as_ HC.out (HS2.out.foot HOKB.out HF.out) HA.out).mono ?_);rintro e w4 ⟨Aa,ca,rfl,hR4,hm4,hb4⟩;have HR4:=Aside0.mk hR4;have HB4:=Aside0.mk hb4;clear hR4 hb4))
   obtain ⟨v4,hq1,hq2,hq3,hq4,hq5⟩:=text_start HS2.out HBS.out HT.out HOK.out HB4.out
   have HB4S:=Aside0.mk hq1
   have HT4:=Aside0.mk hq2
   have HOKE:=Aside0.mk hq3
   have HKB4:=Aside0.mk hq4
   have HHAT:=Aside0.mk hq5
   have HLP:=Aside0.mk (show TLoop B b v4 w4 (fun k_=>((ok k_∧k_<W.heap.size)∨w2.heap.size≤k_)∧k_<w4.heap.size) K k (.slice Aa as_.length ca) as_ (l++Cat.word c0) m 0 w4 from
    ⟨[],m,by rw [List.append_nil];exact TS.mk0 hq1,HR4.out,HM.out,rfl⟩)
   clear hq1 hq2 hq3 hq4 hq5 HS1 HS2 HR4 HM HA HW1 HW2 HW3
   go_loopg [5,6,36] as_.length (fun gg _ _ s36 wr=>∃ j:Nat,j≤as_.length∧as_.length - j≤gg∧s36 = .int .i64 j∧Aside0 (TLoop B b v4 w4 (fun k_=>((ok k_∧k_<W.heap.size)∨w2.heap.size≤k_)∧k_<w4.heap.size) K k (.slice Aa as_.length ca) as_ (l++Cat.word c0) m j wr))
   case atStart=>exact ⟨0,Nat.zero_le _,by omega,rfl,HLP⟩
   case round=>
    obtain ⟨j,hj,hgg,rfl,HLj⟩:=hrel
    by_cases hlt:j<as_.length
    ·have hltz:(j:Int)<(as_.length:Int):=by omega
     obtain ⟨m1,x,y,ada,A1,c1,h1,h2,h3,h4,h5,h6,h7,h8,h9⟩:=HLj.out.open_ hlt
     subst h6
     have R1:=Aside0.mk h1
     have R2:=Aside0.mk h2
     have R3:=Aside0.mk h3
     have R4:=Aside0.mk h4
     have R5:=Aside0.mk h5
     have R8:=Aside0.mk h8
     have R9:=Aside0.mk h9
     generalize as_[j]=a1 at h7 R3 R8 R9
     clear h1 h2 h3 h4 h5 h8 h9
     by_cases hj0:j=0
     ·have hjz:(j:Int)<1:=by omega
      have HJ:=Aside0.mk hj0
      clear hj0
      have hsep:(wr.alloc (Obj.cells #[Value.string ⟨#[40]⟩,Value.string ⟨#[44]⟩] 9)).cell? ⟨wr.heap.size,j,none⟩=some (.string ⟨#[40]⟩):=by rw [HJ.out,Lib.cell_of_heap (heap_alloc_new wr _)];rfl
      have HL6:=Aside0.mk (show (l++Cat.word c0++m1).length + [(40:UInt8)].length≤140737488355328 by
       have h1:=HLEN.out;have h2:=congrArg List.length R5.out
       simp only [List.length_append,List.length_cons,List.length_nil] at h1 h2 ⊢;omega)
      have HL7:=Aside0.mk (show (l++Cat.word c0++m1++[(40:UInt8)]).length+x.length≤140737488355328 by
       have h1:=HLEN.out;have h2:=congrArg List.length R5.out
       simp only [List.length_append,List.length_cons,List.length_nil] at h1 h2 ⊢;omega)
      go_wp2_with (first
       | (go_at_call 85;(with_reducible refine ((R1.out.step (below_alloc (Below.refl _ _) _)).write _ [40] ?_ HL6.out).mono ?_);rfl;rintro e w6 ⟨rfl,hs6⟩;have HS6:=Aside0.mk hs6;clear hs6)
       | (go_at_call 60;(with_reducible refine (TS.call (r:=x) HI.out HS6.out HB4S.out HT4.out HOKE.out (Kd.F_step R9.out (fun k_ hk_ _=>R1.out.same HS6.out HOKE.out k_ hk_)) R8.out R3.out HL7.out).mono ?_);rintro e w7 ⟨rfl,hs7⟩;have HS7:=Aside0.mk hs7;clear hs7))
      go_roundg (as_.length - (j+1))
      case measure=>omega
      case rel=>exact ⟨j+1,by omega,by omega,by go_num,⟨TLoop.next R1.out R2.out HOKE.out HS7.out R4.out (by have:=R5.out;rw [if_pos HJ.out] at this;exact this)⟩⟩
     ·by_cases hj1:j=1
      ·have hjz:¬ (1:Int)<(j:Int):=by omega
       have hsep:(wr.alloc (Obj.cells #[Value.string ⟨#[40]⟩,Value.string ⟨#[44]⟩] 9)).cell? ⟨wr.heap.size,j,none⟩=some (.string ⟨#[44]⟩):=by rw [hj1,Lib.cell_of_heap (heap_alloc_new wr _)];rfl
       have HJ:=Aside0.mk hj0
       clear hj0 hj1
       have HL6:=Aside0.mk (show (l++Cat.word c0++m1).length + [(44:UInt8)].length≤140737488355328 by
        have h1:=HLEN.out;have h2:=congrArg List.length R5.out
        simp only [List.length_append,List.length_cons,List.length_nil] at h1 h2 ⊢;omega)
       have HL7:=Aside0.mk (show (l++Cat.word c0++m1++[(44:UInt8)]).length+x.length≤140737488355328 by
        have h1:=HLEN.out;have h2:=congrArg List.length R5.out
        simp only [List.length_append,List.length_cons,List.length_nil] at h1 h2 ⊢;omega)
       go_wp2_with (first
        | (go_at_call 85;(with_reducible refine ((R1.out.step (below_alloc (Below.refl _ _) _)).write _ [44] ?_ HL6.out).mono ?_);rfl;rintro e w6 ⟨rfl,hs6⟩;have HS6:=Aside0.mk hs6;clear hs6)
        | (go_at_call 60;(with_reducible refine (TS.call (r:=x) HI.out HS6.out HB4S.out HT4.out HOKE.out (Kd.F_step R9.out (fun k_ hk_ _=>R1.out.same HS6.out HOKE.out k_ hk_)) R8.out R3.out HL7.out).mono ?_);rintro e w7 ⟨rfl,hs7⟩;have HS7:=Aside0.mk hs7;clear hs7))
       go_roundg (as_.length - (j+1))
       case measure=>omega
       case rel=>exact ⟨j+1,by omega,by omega,by go_num,⟨TLoop.next R1.out R2.out HOKE.out HS7.out R4.out qz147⟩⟩
      ·have hjz:(1:Int)<(j:Int):=by omega
       have HJ:=Aside0.mk hj0
       clear hj0 hj1
       have HL6:=Aside0.mk (show (l++Cat.word c0++m1).length + [(44:UInt8)].length≤140737488355328 by
        have h1:=HLEN.out;have h2:=congrArg List.length R5.out
        simp only [List.length_append,List.length_cons,List.length_nil] at h1 h2 ⊢;omega)
       have HL7:=Aside0.mk (show (l++Cat.word c0++m1++[(44:UInt8)]).length+x.length≤140737488355328 by
        have h1:=HLEN.out;have h2:=congrArg List.length R5.out
        simp only [List.length_append,List.length_cons,List.length_nil] at h1 h2 ⊢;omega)
       go_wp2_with (first
        | (go_at_call 85;(with_reducible refine ((R1.out.step (below_alloc (Below.refl _ _) _)).write _ [44] ?_ HL6.out).mono ?_);rfl;rintro e w6 ⟨rfl,hs6⟩;have HS6:=Aside0.mk hs6;clear hs6)
        | (go_at_call 60;(with_reducible refine (TS.call (r:=x) HI.out HS6.out HB4S.out HT4.out HOKE.out (Kd.F_step R9.out (fun k_ hk_ _=>R1.out.same HS6.out HOKE.out k_ hk_)) R8.out R3.out HL7.out).mono ?_);rintro e w7 ⟨rfl,hs7⟩;have HS7:=Aside0.mk hs7;clear hs7))
       go_roundg (as_.length - (j+1))
       case measure=>omega
       case rel=>exact ⟨j+1,by omega,by omega,by go_num,⟨TLoop.next R1.out R2.out HOKE.out HS7.out R4.out qz147⟩⟩
    ·have hltz:¬ (j:Int)<(as_.length:Int):=by omega
     obtain ⟨m1,m2,h1,h2,h3,h4⟩:=HLj.out
     rw [List.drop_eq_nil_of_le (by omega),textL] at h3
     obtain rfl:=Option.some.inj h3
     rw [List.append_nil] at h4
     subst h4
     have E1:=Aside0.mk (h1.up HKB4.out HHAT.out)
     obtain ⟨ad',ea,hy0,hy1,hy2⟩:=thead_cells c0 t wr (some ad) (Kd.F_now (E1.out.foot HOKB.out HF.out))
     injection ea with ea
     subst ea
     clear h1 h2 h3
     by_cases hn0:0<n
     ·have HN0:=Aside0.mk hn0
      have HL8:=Aside0.mk (show (l++Cat.word c0++m).length + [(41:UInt8)].length≤140737488355328 by
       have h1:=HLEN.out;rw [if_pos hn0] at h1
       simp only [List.length_append,List.length_cons,List.length_nil] at h1 ⊢;omega)
      go_wp2_with (first
       | (go_at_call 88;(with_reducible refine (impl_TrmCell_arity.calls c0.f0 c0.f1 c0.f2 n _ HN.out).mono ?_);rintro e w8 ⟨rfl,hb8⟩;have HS8:=Aside0.mk (E1.out.step hb8);clear hb8)
       | (go_at_call 85;(with_reducible refine (HS8.out.write _ [41] ?_ HL8.out).mono ?_);rfl;rintro e w9 ⟨rfl,hs9⟩;have HS9:=Aside0.mk hs9;clear hs9))
      go_end0
      refine ⟨rfl,?_⟩
      have e:=HS9.out
      simp only [List.append_assoc] at e ⊢
      first|exact e|(rw [if_pos HN0.out];exact e)
     ·have HN0:=Aside0.mk hn0
      go_wp2_with (first
       | (go_at_call 88;(with_reducible refine (impl_TrmCell_arity.calls c0.f0 c0.f1 c0.f2 n _ HN.out).mono ?_);rintro e w8 ⟨rfl,hb8⟩;have HS8:=Aside0.mk (E1.out.step hb8);clear hb8))
      go_end0
      refine ⟨rfl,?_⟩
      have e:=HS8.out
      simp only [List.append_assoc,List.append_nil] at e ⊢
      first|exact e|(rw [if_neg (by have:=HN0.out;omega),List.append_nil];exact e)
  ·have t1:(c0.f0 == 1)=false:=by rw [hk];rfl
   have t2:(c0.f0 == 2)=false:=by rw [hk];rfl
   have t3:(c0.f0 == 3)=true:=by simpa using hk
   have HK:=Aside0.mk hk
   clear hk
   go_enter Tryz.func60,Tryz.ntmps60
   go_wp2_with (first
    | (go_at_call 85;(with_reducible refine ((HTS0.out.step (below_alloc (Below.refl _ _) _)).write _ (Cat.word c0) (HW3.out HK.out) HL1.out).mono ?_);rintro e w2 ⟨rfl,hs2⟩;have HS2:=Aside0.mk hs2;clear hs2)
    | (go_at_call 87;(with_reducible refine (targs_calls w2 (fun k=>ok k∧k<W.heap.size) K c0 t (some ad) c as_ HC.out (HS2.out.foot HOKB.out HF.out) HA.out).mono ?_);rintro e w4 ⟨Aa,ca,rfl,hR4,hm4,hb4⟩;have HR4:=Aside0.mk hR4;have HB4:=Aside0.mk hb4;clear hR4 hb4))
   obtain ⟨v4,hq1,hq2,hq3,hq4,hq5⟩:=text_start HS2.out HBS.out HT.out HOK.out HB4.out
   have HB4S:=Aside0.mk hq1
   have HT4:=Aside0.mk hq2
   have HOKE:=Aside0.mk hq3
   have HKB4:=Aside0.mk hq4
   have HHAT:=Aside0.mk hq5
   have HLP:=Aside0.mk (show TLoop B b v4 w4 (fun k_=>((ok k_∧k_<W.heap.size)∨w2.heap.size≤k_)∧k_<w4.heap.size) K k (.slice Aa as_.length ca) as_ (l++Cat.word c0) m 0 w4 from
    ⟨[],m,by rw [List.append_nil];exact TS.mk0 hq1,HR4.out,HM.out,rfl⟩)
   clear hq1 hq2 hq3 hq4 hq5 HS2 HR4 HM HA HW1 HW2 HW3
   go_loopg [5,6,36] as_.length (fun gg _ _ s36 wr=>∃ j:Nat,j≤as_.length∧as_.length - j≤gg∧s36 = .int .i64 j∧Aside0 (TLoop B b v4 w4 (fun k_=>((ok k_∧k_<W.heap.size)∨w2.heap.size≤k_)∧k_<w4.heap.size) K k (.slice Aa as_.length ca) as_ (l++Cat.word c0) m j wr))
   case atStart=>exact ⟨0,Nat.zero_le _,by omega,rfl,HLP⟩
   case round=>
    obtain ⟨j,hj,hgg,rfl,HLj⟩:=hrel
    by_cases hlt:j<as_.length
    ·have hltz:(j:Int)<(as_.length:Int):=by omega
     obtain ⟨m1,x,y,ada,A1,c1,h1,h2,h3,h4,h5,h6,h7,h8,h9⟩:=HLj.out.open_ hlt
     subst h6
     have R1:=Aside0.mk h1
     have R2:=Aside0.mk h2
     have R3:=Aside0.mk h3
     have R4:=Aside0.mk h4
     have R5:=Aside0.mk h5
     have R8:=Aside0.mk h8
     have R9:=Aside0.mk h9
     generalize as_[j]=a1 at h7 R3 R8 R9
     clear h1 h2 h3 h4 h5 h8 h9
     by_cases hj0:j=0
     ·have hjz:(j:Int)<1:=by omega
      have HJ:=Aside0.mk hj0
      clear hj0
      have hsep:(wr.alloc (Obj.cells #[Value.string ⟨#[40]⟩,Value.string ⟨#[44]⟩] 9)).cell? ⟨wr.heap.size,j,none⟩=some (.string ⟨#[40]⟩):=by rw [HJ.out,Lib.cell_of_heap (heap_alloc_new wr _)];rfl
      have HL6:=Aside0.mk (show (l++Cat.word c0++m1).length + [(40:UInt8)].length≤140737488355328 by
       have h1:=HLEN.out;have h2:=congrArg List.length R5.out
       simp only [List.length_append,List.length_cons,List.length_nil] at h1 h2 ⊢;omega)
      have HL7:=Aside0.mk (show (l++Cat.word c0++m1++[(40:UInt8)]).length+x.length≤140737488355328 by
       have h1:=HLEN.out;have h2:=congrArg List.length R5.out
       simp only [List.length_append,List.length_cons,List.length_nil] at h1 h2 ⊢;omega)
      go_wp2_with (first
       | (go_at_call 85;(with_reducible refine ((R1.out.step (below_alloc (Below.refl _ _) _)).write _ [40] ?_ HL6.out).mono ?_);rfl;rintro e w6 ⟨rfl,hs6⟩;have HS6:=Aside0.mk hs6;clear hs6)
       | (go_at_call 60;(with_reducible refine (TS.call (r:=x) HI.out HS6.out HB4S.out HT4.out HOKE.out (Kd.F_step R9.out (fun k_ hk_ _=>R1.out.same HS6.out HOKE.out k_ hk_)) R8.out R3.out HL7.out).mono ?_);rintro e w7 ⟨rfl,hs7⟩;have HS7:=Aside0.mk hs7;clear hs7))
      go_roundg (as_.length - (j+1))
      case measure=>omega
      case rel=>exact ⟨j+1,by omega,by omega,by go_num,⟨TLoop.next R1.out R2.out HOKE.out HS7.out R4.out (by have:=R5.out;rw [if_pos HJ.out] at this;exact this)⟩⟩
     ·by_cases hj1:j=1
      ·have hjz:¬ (1:Int)<(j:Int):=by omega
       have hsep:(wr.alloc (Obj.cells #[Value.string ⟨#[40]⟩,Value.string ⟨#[44]⟩] 9)).cell? ⟨wr.heap.size,j,none⟩=some (.string ⟨#[44]⟩):=by rw [hj1,Lib.cell_of_heap (heap_alloc_new wr _)];rfl
       have HJ:=Aside0.mk hj0
       clear hj0 hj1
       have HL6:=Aside0.mk (show (l++Cat.word c0++m1).length + [(44:UInt8)].length≤140737488355328 by
        have h1:=HLEN.out;have h2:=congrArg List.length R5.out
        simp only [List.length_append,List.length_cons,List.length_nil] at h1 h2 ⊢;omega)
       have HL7:=Aside0.mk (show (l++Cat.word c0++m1++[(44:UInt8)]).length+x.length≤140737488355328 by
        have h1:=HLEN.out;have h2:=congrArg List.length R5.out
        simp only [List.length_append,List.length_cons,List.length_nil] at h1 h2 ⊢;omega)
       go_wp2_with (first
        | (go_at_call 85;(with_reducible refine ((R1.out.step (below_alloc (Below.refl _ _) _)).write _ [44] ?_ HL6.out).mono ?_);rfl;rintro e w6 ⟨rfl,hs6⟩;have HS6:=Aside0.mk hs6;clear hs6)
        | (go_at_call 60;(with_reducible refine (TS.call (r:=x) HI.out HS6.out HB4S.out HT4.out HOKE.out (Kd.F_step R9.out (fun k_ hk_ _=>R1.out.same HS6.out HOKE.out k_ hk_)) R8.out R3.out HL7.out).mono ?_);rintro e w7 ⟨rfl,hs7⟩;have HS7:=Aside0.mk hs7;clear hs7))
       go_roundg (as_.length - (j+1))
       case measure=>omega
       case rel=>exact ⟨j+1,by omega,by omega,by go_num,⟨TLoop.next R1.out R2.out HOKE.out HS7.out R4.out qz147⟩⟩
      ·have hjz:(1:Int)<(j:Int):=by omega
       have HJ:=Aside0.mk hj0
       clear hj0 hj1
       have HL6:=Aside0.mk (show (l++Cat.word c0++m1).length + [(44:UInt8)].length≤140737488355328 by
        have h1:=HLEN.out;have h2:=congrArg List.length R5.out
        simp only [List.length_append,List.length_cons,List.length_nil] at h1 h2 ⊢;omega)
       have HL7:=Aside0.mk (show (l++Cat.word c0++m1++[(44:UInt8)]).length+x.length≤140737488355328 by
        have h1:=HLEN.out;have h2:=congrArg List.length R5.out
        simp only [List.length_append,List.length_cons,List.length_nil] at h1 h2 ⊢;omega)
       go_wp2_with (first
        | (go_at_call 85;(with_reducible refine ((R1.out.step (below_alloc (Below.refl _ _) _)).write _ [44] ?_ HL6.out).mono ?_);rfl;rintro e w6 ⟨rfl,hs6⟩;have HS6:=Aside0.mk hs6;clear hs6)
        | (go_at_call 60;(with_reducible refine (TS.call (r:=x) HI.out HS6.out HB4S.out HT4.out HOKE.out (Kd.F_step R9.out (fun k_ hk_ _=>R1.out.same HS6.out HOKE.out k_ hk_)) R8.out R3.out HL7.out).mono ?_);rintro e w7 ⟨rfl,hs7⟩;have HS7:=Aside0.mk hs7;clear hs7))
       go_roundg (as_.length - (j+1))
       case measure=>omega
       case rel=>exact ⟨j+1,by omega,by omega,by go_num,⟨TLoop.next R1.out R2.out HOKE.out HS7.out R4.out qz147⟩⟩
    ·have hltz:¬ (j:Int)<(as_.length:Int):=by omega
     obtain ⟨m1,m2,h1,h2,h3,h4⟩:=HLj.out
     rw [List.drop_eq_nil_of_le (by omega),textL] at h3
     obtain rfl:=Option.some.inj h3
     rw [List.append_nil] at h4
     subst h4
     have E1:=Aside0.mk (h1.up HKB4.out HHAT.out)
     obtain ⟨ad',ea,hy0,hy1,hy2⟩:=thead_cells c0 t wr (some ad) (Kd.F_now (E1.out.foot HOKB.out HF.out))
     injection ea with ea
     subst ea
     clear h1 h2 h3
     by_cases hn0:0<n
     ·have HN0:=Aside0.mk hn0
      have HL8:=Aside0.mk (show (l++Cat.word c0++m).length + [(41:UInt8)].length≤140737488355328 by
       have h1:=HLEN.out;rw [if_pos hn0] at h1
       simp only [List.length_append,List.length_cons,List.length_nil] at h1 ⊢;omega)
      go_wp2_with (first
       | (go_at_call 88;(with_reducible refine (impl_TrmCell_arity.calls c0.f0 c0.f1 c0.f2 n _ HN.out).mono ?_);rintro e w8 ⟨rfl,hb8⟩;have HS8:=Aside0.mk (E1.out.step hb8);clear hb8)
       | (go_at_call 85;(with_reducible refine (HS8.out.write _ [41] ?_ HL8.out).mono ?_);rfl;rintro e w9 ⟨rfl,hs9⟩;have HS9:=Aside0.mk hs9;clear hs9))
      go_end0
      refine ⟨rfl,?_⟩
      have e:=HS9.out
      simp only [List.append_assoc] at e ⊢
      first|exact e|(rw [if_pos HN0.out];exact e)
     ·have HN0:=Aside0.mk hn0
      go_wp2_with (first
       | (go_at_call 88;(with_reducible refine (impl_TrmCell_arity.calls c0.f0 c0.f1 c0.f2 n _ HN.out).mono ?_);rintro e w8 ⟨rfl,hb8⟩;have HS8:=Aside0.mk (E1.out.step hb8);clear hb8))
      go_end0
      refine ⟨rfl,?_⟩
      have e:=HS8.out
      simp only [List.append_assoc,List.append_nil] at e ⊢
      first|exact e|(rw [if_neg (by have:=HN0.out;omega),List.append_nil];exact e)

/-! ### impl_TrmText: function 35 -/
def impl_TrmText.f (k:Nat) (l0:List (S63)):Option ByteArray:=if Cat.isTerm l0=true then (textF k k l0).bind fun m=>if m.length≤1000000000 then some (⟨m.toArray⟩:ByteArray) else none else some (⟨#[]⟩:ByteArray)
theorem BS.fresh (w:World):BS w.heap.size w.heap.size (.slice none 0 0) [] (w.alloc (.cells #[.pointer none,.slice none 0 0] 84)):=
 ⟨_,.inl rfl,Nat.le_refl _,heap_alloc_new w _,World.ownsRowF_nil _ _ _ _,by simp [Value.ownBlock]⟩
theorem BS.isB {B b:Nat} {v:Value} {l:List UInt8} {W:World} (h:BS B b v l W):Lib.IsBuilderF 84 5 B b (Lib.byteCells l) W:=by
 obtain ⟨p,hp,h1,h2,h3,h4⟩:=h
 rw [← Lib.byteCells_length] at h3
 rcases hp with rfl|rfl
 ·exact .inl ⟨h1,v,h2,h3,h4⟩
 ·exact .inr ⟨h1,v,h2,h3,h4⟩
theorem string_calls {B b:Nat} {v:Value} {l:List UInt8} {W:World} (h:BS B b v l W) :
  Calls Tryz.prog 61 #[.pointer (some ⟨b,0,none⟩)] W fun e w'=>e = .returned (.string ⟨l.toArray⟩)∧Below B W w':=
 (Tryz.Builder_String_any_k B b l W h.isB (by obtain ⟨p,_,q⟩:=h;have:=q.1;have:=q.lt;omega)).mono fun e w' ⟨h1,_,h2,_⟩=>⟨h1,h2⟩
theorem text_fresh (k:Nat) (l0:List Cat.Cell) (m:List UInt8) (A0:Option Addr) (c0:Nat) (w w1:World) (hT:TabT w) (hb:Below w.heap.size w w1) (hr0:Kd.C k63 w A0 l0.length l0) (hc0:l0.length≤c0) (hm:textF k k l0=some m) (hl:m.length≤1000000000) :
  Calls Tryz.prog 60 #[.pointer (some ⟨w1.heap.size,0,none⟩),.slice A0 l0.length c0] (w1.alloc (.cells #[.pointer none,.slice none 0 0] 84)) fun e w'=>e = .returned (.tuple #[])∧∃ v',BS w1.heap.size w1.heap.size v' m w'∧Below w1.heap.size w1 w':=by
 refine (impl_text.any k w1.heap.size w1.heap.size k l0 m [] (.slice none 0 0) (fun k_=>k_<w1.heap.size) A0 c0 _ hm (BS.fresh w1) (TabB.step (hT.below hb) (below_alloc (Below.refl _ _) _)) (fun k_ hk_=>⟨Nat.ne_of_lt hk_,by simp [Value.ownBlock]⟩) (Kd.F_alloc (Kd.C_F k63_heap (Kd.C_below hr0 hb)) _) hc0 (by simp;omega)).mono ?_
 rintro e w' ⟨he,v',h1,h2,h3⟩
 refine ⟨he,v',h1,(below_alloc (Below.refl _ _) _).trans (h2.below (BS.fresh w1))⟩
set_option maxHeartbeats 4000000 in
set_option maxRecDepth 100000 in
theorem impl_TrmText.calls (k:Nat) (A0:Option Addr) (c0:Nat) (l0:List (S63)) (r:ByteArray) (w:World) (hT_:TabT w) (hr0:Kd.C k63 w A0 l0.length l0) (hc0:l0.length≤c0) (h:impl_TrmText.f k l0=some r) :
  Calls Tryz.prog 35 #[.slice A0 l0.length c0] w fun e w'=>e = .returned (.string r)∧Below w.heap.size w w':=by
 unfold impl_TrmText.f at h
 have HT:=Aside0.mk hT_
 have HR:=Aside0.mk hr0
 have HC:=Aside0.mk hc0
 clear hT_ hr0 hc0
 by_cases ht:Cat.isTerm l0=true
 ·rw [if_pos ht] at h
  obtain ⟨m,hm,h⟩:=Option.bind_eq_some_iff.1 h
  by_cases hl:m.length≤1000000000
  case neg=>rw [if_neg hl] at h;cases h
  rw [if_pos hl] at h
  obtain rfl:=Option.some.inj h
  have HM:=Aside0.mk hm
  have HL:=Aside0.mk hl
  have HO:=Aside0.mk (show impl_TrmOk.f l0=some true by rw [show impl_TrmOk.f l0=some (Cat.isTerm l0) from rfl,ht])
  clear h hm hl ht
  go_enter Tryz.func35,Tryz.ntmps35
  go_wp2_with (first
   | (go_at_call 42;(with_reducible refine (impl_TrmOk.calls A0 c0 l0 true w HR.out HC.out HO.out).mono ?_);rintro e w1 ⟨rfl,hb1⟩;have HB1:=Aside0.mk hb1;clear hb1)
   | (go_at_call 60;(with_reducible refine (text_fresh k l0 m A0 c0 w w1 HT.out HB1.out HR.out HC.out HM.out HL.out).mono ?_);rintro e w2 ⟨rfl,v2,h2,hb2⟩;have HS2:=Aside0.mk h2;have HB2:=Aside0.mk (HB1.out.trans (hb2.mono HB1.out.size));clear h2 hb2)
   | (go_at_call 61;(with_reducible refine (string_calls HS2.out).mono ?_);rintro e w3 ⟨rfl,hb3⟩;have HB3:=Aside0.mk (HB2.out.trans (hb3.mono HB1.out.size));clear hb3))
  go_ret
  exact ⟨rfl,HB3.out⟩
 ·rw [if_neg ht] at h
  obtain rfl:=Option.some.inj h
  have HO:=Aside0.mk (show impl_TrmOk.f l0=some false by rw [show impl_TrmOk.f l0=some (Cat.isTerm l0) from rfl,Bool.eq_false_iff.2 ht])
  clear h ht
  go_enter Tryz.func35,Tryz.ntmps35
  go_wp2_with (go_at_call 42;(with_reducible refine (impl_TrmOk.calls A0 c0 l0 false w HR.out HC.out HO.out).mono ?_);rintro e w1 ⟨rfl,hb1⟩;have HB1:=Aside0.mk hb1;clear hb1)
  go_ret
  exact ⟨rfl,HB1.out⟩

end Go.Proofs.YtlhniagacegbeaaGreatDoor.P
