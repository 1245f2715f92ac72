/- Contracts of functions of the program: each as a Lean function, and that its call does what that says; printed by cprint.py (this session) over print.py of the kit. Conditions: the hypotheses of each theorem. -/
import Derived.Test.YtlaicnoikeieeaaDoorP0
import Derived.Test.YtlaicnoikeieeaaDoorP2
import Derived.Test.YtlaicnoikeieeaaDoorP9
import Derived.Test.YtlaicnoikeieeaaDoorP10
namespace Go.Proofs.YtlaicnoikeieeaaDoor.P
open Go.RowKit Go.Proofs.YtlaicnoikeieeaaDoorW.PrintWords Go.Proofs.YtlaicnoikeieeaaDoorW.PrintLast Go.Proofs.YtlaicnoikeieeaaDoorW.PrintMore
attribute [local go_sem] max2_int min2_int max_two min_two max_three min_three max_four min_four   -- for this text's walks alone
set_option linter.unusedVariables false
set_option linter.unusedSimpArgs false

/-! ### impl_bindings_bind: function 102 -/
/-- a row of bindings in memory: it came in (before w0) and has no room, or it is the call's own; its cells -/
def BRow (w0 W:World) (v:Value) (n:Nat) (raws:List Value) (row:Option Nat):Prop:=
 raws.length=n * 2∧((row=none∧∃ ao,v = .slice ao n n∧(ao=none→n=0)∧∀ b,ao=some b→∀ j u,raws[j]?=some u→W.cell? (b.add j)=some u∧b.block<w0.heap.size)∨(row=v.ownBlock∧W.ownsRow w0.heap.size 30 2 v n raws))
def Elts (W:World) (row:Option Nat) (xs:List Cat.Bind) (raws:List Value):Prop:=
 ∀ j x,xs[j]?=some x→∃ A c,raws[j * 2]?=some (.int .i64 x.f0)∧raws[j * 2+1]?=some (.slice A x.f1.length c)∧x.f1.length≤c∧Kd.F k46 W (fun k=>some k≠row) A x.f1.length x.f1
def Binds (w0 W:World) (v:Value) (xs:List Cat.Bind) (row:Option Nat):Prop:=
 Below w0.heap.size w0 W∧xs.length≤1000000000∧∃ raws,BRow w0 W v xs.length raws row∧Elts W row xs raws
theorem brow_cells {w0 W:World} {v:Value} {n:Nat} {raws:List Value} {row:Option Nat} (h:BRow w0 W v n raws row):∃ A c,v = .slice A n c∧n≤c∧(0<n→∃ ad,A=some ad∧∀ j u,raws[j]?=some u→W.cell? (ad.add j)=some u):=by
 rcases h.2 with ⟨rfl,ao,rfl,hn,hc⟩|⟨rfl,ho⟩
 ·refine ⟨ao,n,rfl,Nat.le_refl _,fun hp=>?_⟩
  cases ao with
  | none=>have:=hn rfl;omega
  | some b=>exact ⟨b,rfl,fun j u hj=>(hc b rfl j u hj).1⟩
 ·rcases ho.2 with ⟨rfl,rfl⟩|⟨g,cap,cur,rfl,hg,hb,hcap,hmax,hsz,htk⟩
  ·exact ⟨none,0,rfl,Nat.le_refl _,fun hp=>by omega⟩
  ·refine ⟨some ⟨g,0,none⟩,cap,rfl,hcap,fun hp=>⟨_,rfl,fun j u hj=>?_⟩⟩
   refine World.news_of_block hb j u ?_
   rw [← htk] at hj
   rw [List.getElem?_take] at hj
   split at hj
   ·exact hj
   ·cases hj
theorem brow_step {w0 W W':World} {v:Value} {n:Nat} {raws:List Value} {row:Option Nat} (h:BRow w0 W v n raws row) (hB:w0.heap.size≤W.heap.size) (hb:Below W.heap.size W W'):BRow w0 W' v n raws row:=by
 refine ⟨h.1,?_⟩
 rcases h.2 with ⟨rfl,ao,rfl,hn,hc⟩|⟨rfl,hl,ho⟩
 ·refine .inl ⟨rfl,ao,rfl,hn,fun b hb' j u hj=>?_⟩
  obtain ⟨q1,q2⟩:=hc b hb' j u hj
  exact ⟨(hb.cell (p:=b.add j) (by rw [add_block];omega)).trans q1,q2⟩
 ·refine .inr ⟨rfl,hl,?_⟩
  rcases ho with ⟨rfl,rfl⟩|⟨g,cap,cur,rfl,hg,hbk,hcap,hmax,hsz,htk⟩
  ·exact .inl ⟨rfl,rfl⟩
  ·refine .inr ⟨g,cap,cur,rfl,hg,?_,hcap,hmax,hsz,htk⟩
   have hlt:g<W.heap.size:=by
    rcases Nat.lt_or_ge g W.heap.size with h|h
    ·exact h
    ·rw [Array.getElem?_eq_none h] at hbk;cases hbk
   rw [hb.block g hlt];exact hbk
theorem elts_step {W W':World} {row:Option Nat} {xs:List Cat.Bind} {raws:List Value} (h:Elts W row xs raws) (hb:Below W.heap.size W W'):Elts W' row xs raws:=by
 intro j x hj
 obtain ⟨A,c,h1,h2,h3,h4⟩:=h j x hj
 exact ⟨A,c,h1,h2,h3,Kd.F_below h4 hb⟩
theorem Binds.step {w0 W W':World} {v:Value} {xs:List Cat.Bind} {row:Option Nat} (h:Binds w0 W v xs row) (hb:Below W.heap.size W W'):Binds w0 W' v xs row:=by
 obtain ⟨h0,hn,raws,h1,h2⟩:=h
 exact ⟨h0.trans (hb.mono h0.size),hn,raws,brow_step h1 h0.size hb,elts_step h2 hb⟩
theorem Binds.at_ {w0 W:World} {v:Value} {xs:List Cat.Bind} {row:Option Nat} (h:Binds w0 W v xs row):∃ A c,v = .slice A xs.length c∧xs.length≤c∧∀ j x,xs[j]?=some x→∃ ad A1 c1,A=some ad∧W.cell? (ad.add (j * 2))=some (.int .i64 x.f0)∧
  W.cell? (ad.add (j * 2+1))=some (.slice A1 x.f1.length c1)∧x.f1.length≤c1∧Kd.F k46 W (fun k=>some k≠row) A1 x.f1.length x.f1:=by
 obtain ⟨h0,hn,raws,h1,h2⟩:=h
 obtain ⟨A,c,e,hc,hcell⟩:=brow_cells h1
 refine ⟨A,c,e,hc,fun j x hj=>?_⟩
 obtain ⟨A1,c1,q1,q2,q3,q4⟩:=h2 j x hj
 have hlt:=(List.getElem?_eq_some_iff.1 hj).1
 obtain ⟨ad,ea,hcs⟩:=hcell (by omega)
 exact ⟨ad,A1,c1,ea,hcs _ _ q1,hcs _ _ q2,q3,q4⟩
theorem Binds.C {w0 W:World} {v:Value} {xs:List Cat.Bind} {row:Option Nat} (h:Binds w0 W v xs row):∃ A c,v = .slice A xs.length c∧xs.length≤c∧Kd.C k30 W A xs.length xs:=by
 obtain ⟨A,c,e,hc,hat⟩:=h.at_
 refine ⟨A,c,e,hc,rfl,by have:=h.2.1;omega,fun hp=>?_⟩
 obtain ⟨ad,A1,c1,ea,_⟩:=hat 0 xs[0] (by simp [hp])
 refine ⟨ad,ea,fun j x hj=>?_⟩
 obtain ⟨ad',A1,c1,ea',q1,q2,q3,q4⟩:=hat j x hj
 rw [ea] at ea'
 injection ea' with ea'
 subst ea'
 refine ⟨[.int .i64 x.f0,.slice A1 x.f1.length c1],rfl,k30_mk W x q3 (Kd.F_now q4),fun i u hi=>?_⟩
 match i,hi with
 | 0,hi=>obtain rfl:=Option.some.inj hi;exact q1
 | 1,hi=>obtain rfl:=Option.some.inj hi;exact q2
section
variable {ops : Array Oper} {rest : List Oper} {o : Oper} {a : Act} {Q : Exit → Act → World → Prop}
/-- one binding more -/
theorem Binds.append {w0 W:World} {v:Value} {xs:List Cat.Bind} {row:Option Nat} (h:Binds w0 W v xs row) (hgd:o.guard=none) (sx x:Operand) (ho:o.op = .call { callee:=.builtin .append,args:=#[sx,x],argTypes:=#[85,85] })
  (hs:a.eval sx=v) (hx:a.eval x = .slice (some ⟨W.heap.size,0,none⟩) 1 1) (b:Int) (t:List Cat.Cell) (A:Option Addr) (c:Nat) (hl:t.length≤c) (hF:Kd.F k46 W (fun k=>some k≠row) A t.length t) (hn:xs.length<1000000000)
  (hK:∀ v1 w1 row1,Binds w0 w1 v1 (xs++[⟨b,t⟩]) row1→W.grownBy w1 row→(row1=row∨∃ g,row1=some g∧W.heap.size≤g)→wpList Tryd.prog ops Q rest (a.put o.dst v1) w1) :
  wpList Tryd.prog ops Q (o :: rest) a (W.alloc (.cells #[.int .i64 b,.slice A t.length c] 30)):=by
 obtain ⟨h0,_,raws,h1,h2⟩:=h
 have hbound:∀ {row1:Option Nat} {A1:Option Addr} {y:List Cat.Cell} {w1:World},W.grownBy w1 row→(row1=row∨∃ g,row1=some g∧W.heap.size≤g)→Kd.F k46 W (fun k=>some k≠row) A1 y.length y→Kd.F k46 w1 (fun k=>some k≠row1) A1 y.length y:=fun hg hr hF=>by
  intro W' hW
  refine hF W' (fun k hk hlt=>(hW k ?_ (Nat.lt_of_lt_of_le hlt hg.size)).trans (hg.block k hlt hk))
  rcases hr with rfl|⟨g,rfl,hg'⟩
  ·exact hk
  ·intro e;injection e with e;omega
 have helts:∀ {w1:World} {row1:Option Nat},W.grownBy w1 row→(row1=row∨∃ g,row1=some g∧W.heap.size≤g)→Elts w1 row1 (xs++[⟨b,t⟩]) (raws++[.int .i64 b,.slice A t.length c]):=fun hg hr j x hj=>by
  have hrl:=h1.1
  rcases Nat.lt_or_ge j xs.length with hjl|hjl
  ·rw [List.getElem?_append_left hjl] at hj
   obtain ⟨A1,c1,q1,q2,q3,q4⟩:=h2 j x hj
   exact ⟨A1,c1,by rw [List.getElem?_append_left (by omega)];exact q1,by rw [List.getElem?_append_left (by omega)];exact q2,q3,hbound hg hr q4⟩
  ·have hjx:=(List.getElem?_eq_some_iff.1 hj).1
   rw [List.length_append,List.length_singleton] at hjx
   obtain rfl:j=xs.length:=by omega
   rw [List.getElem?_append_right (Nat.le_refl _),Nat.sub_self] at hj
   obtain rfl:=Option.some.inj hj
   exact ⟨A,c,by rw [List.getElem?_append_right (by omega),hrl,Nat.sub_self];rfl,by rw [List.getElem?_append_right (by omega),hrl,show xs.length * 2+1 - xs.length * 2=1 by omega];rfl,hl,hbound hg hr hF⟩
 have hlen:(raws++[Value.int .i64 b,.slice A t.length c]).length=(xs++[(⟨b,t⟩:Cat.Bind)]).length * 2:=by
  have:=h1.1
  simp;omega
 have hxl:(xs++[(⟨b,t⟩:Cat.Bind)]).length=xs.length+1:=by simp
 rcases h1.2 with ⟨rfl,ao,rfl,hz,hc⟩|⟨rfl,hown⟩
 ·obtain ⟨i0,hi,hzz⟩:=Option.map_eq_some_iff.1 info30
  simp only [Prod.mk.injEq] at hzz
  obtain ⟨hz0,hz1,hz2⟩:=hzz
  refine wpList_append_grows (W.alloc (.cells #[.int .i64 b,.slice A t.length c] 30)) hgd sx x 85 ho 30 i0 (.agg #[.int .i64 0,.slice none 0 0]) 2 32 Tryd.underlying85 hi hz0 hz1 hz2 rfl (by decide) ao xs.length xs.length raws hs (fun e=>⟨hz e,hz e⟩) h1.1 (fun b' hb j u hj=>?_)
   ⟨W.heap.size,0,none⟩ 1 1 [.int .i64 b,.slice A t.length c] hx rfl (by simpa using World.news_of_block (cs:=#[.int .i64 b,.slice A t.length c]) (t:=30) (fr:=(0,0)) (heap_alloc_new W (.cells #[.int .i64 b,.slice A t.length c] 30))) (by simp [Value.oneCell']) (by omega) (by simp only [maxLen];omega) (by omega) ?_
  ·obtain ⟨q1,q2⟩:=hc b' hb j u hj
   have hB:Below W.heap.size W (W.alloc (.cells #[.int .i64 b,.slice A t.length c] 30)):=(Below.refl _ _).alloc (Nat.le_refl _) _
   exact (hB.cell (p:=b'.add j) (by rw [add_block];have:=h0.size;omega)).trans q1
  ·intro v1 w1 hown hg
   have hgW:=World.grownBy.trans (World.grownBy_alloc W _ _) hg
   have hsz:W.heap.size≤(W.alloc (.cells #[.int .i64 b,.slice A t.length c] 30)).heap.size:=by simp
   have hr:v1.ownBlock=none∨∃ g,v1.ownBlock=some g∧W.heap.size≤g:=by
    rcases hown.2 with ⟨_,e⟩|⟨g,cap,cur,rfl,hge,_⟩
    ·omega
    ·exact .inr ⟨g,rfl,Nat.le_trans hsz hge⟩
   have hown':w1.ownsRow w0.heap.size 30 2 v1 (xs.length+1) (raws++[.int .i64 b,.slice A t.length c]):=by
    refine ⟨hown.1,?_⟩
    rcases hown.2 with h|⟨g,cap,cur,e1,hge,e2⟩
    ·exact .inl h
    ·exact .inr ⟨g,cap,cur,e1,Nat.le_trans h0.size (Nat.le_trans hsz hge),e2⟩
   exact hK v1 w1 v1.ownBlock ⟨h0.trans ((below_grown hgW).mono h0.size),by omega,_,⟨hlen,.inr ⟨rfl,by rw [hxl];exact hown'⟩⟩,helts hgW hr⟩ hgW hr
 ·refine print_append_cells (w0:=w0) (W:=W) w0.heap.size hgd sx x 85 30 (.agg #[.int .i64 0,.slice none 0 0]) 2 32 ho Tryd.underlying85 info30 rfl (by decide) (by decide) v xs.length raws [.int .i64 b,.slice A t.length c] hs hx rfl (by simp [Value.oneCell']) hown h0 h0.size (by omega) ?_
  intro v1 w1 hown1 hb1 hg1 hat1
  exact hK v1 w1 v1.ownBlock ⟨hb1,by omega,_,⟨hlen,.inr ⟨rfl,by rw [hxl];exact hown1⟩⟩,helts hg1 hat1⟩ hg1 hat1
end
/-! ### impl_bindings_unify: function 95 -/
def cellEq (x y:Cat.Cell):Bool:=x.f0 == y.f0 && (x.f1 == y.f1 && (x.f2.toList == y.f2.toList))
theorem cellEq_iff (x y:Cat.Cell):cellEq x y=true↔x=y:=by
 unfold cellEq
 constructor
 ·intro h
  simp only [Bool.and_eq_true,beq_iff_eq] at h
  exact Cat.Cell.ext' h.1 h.2.1 (Cat.ba_ext (by rw [← Lib.toList_data,← Lib.toList_data];exact h.2.2))
 ·rintro rfl;simp
theorem eqC46 (d:Nat) (w:World) (x y:Cat.Cell):(Op.equalIn (d+2) 46 (.agg #[.int .i64 x.f0,.int .i64 x.f1,.string x.f2]) (.agg #[.int .i64 y.f0,.int .i64 y.f1,.string y.f2])).run Tryd.prog w = .ok (cellEq x y) w:=by
 refine eqA_of Tryd.underlying46 (by kernel_rfl) ?_
 unfold cellEq
 refine eqf_cons (by rfl) (by go_simp;rfl) (by go_simp;rfl) (by go_simp) ?_
 refine eqf_cons (by rfl) (by go_simp;rfl) (by go_simp;rfl) (by go_simp) ?_
 exact eqf_last (by rfl) (by go_simp;rfl) (by go_simp;rfl) (by go_simp)
theorem head_cells (c:Cat.Cell) (l:List Cat.Cell) (W:World) (A:Option Addr) (h:Kd.C k46 W A (c :: l).length (c :: l)):∃ ad:Addr,A=some ad∧W.cell? ad=some (.int .i64 c.f0)∧W.cell? ⟨ad.block,ad.off+1,none⟩=some (.int .i64 c.f1)∧W.cell? ⟨ad.block,ad.off+2,none⟩=some (.string c.f2):=by
 obtain ⟨ad,e1,h0,h1,h2⟩:=at_T46 h 0 (Int.le_refl _) (by rw [List.length_cons];omega)
 exact ⟨ad,e1,h0,h1,h2⟩
/-- what unify and bind leave -/
def UPost (w0 W:World) (row:Option Nat) (q:Option (List Cat.Bind)) (e:Ending) (w':World):Prop:=
 ∃ v1 row1,e = .returned (.tuple #[v1,.bool q.isSome])∧(∀ s',q=some s'→Binds w0 w' v1 s' row1)∧W.grownBy w' row∧(row1=row∨∃ g,row1=some g∧W.heap.size≤g)
theorem UPost.from {w0 W W1:World} {row:Option Nat} {q:Option (List Cat.Bind)} {e:Ending} {w':World} (hb:W.grownBy W1 row) (h:UPost w0 W1 row q e w'):UPost w0 W row q e w':=by
 obtain ⟨v1,row1,h1,h2,h3,h4⟩:=h
 refine ⟨v1,row1,h1,h2,grown_both hb h3,?_⟩
 rcases h4 with h4|⟨g,h4,h5⟩
 ·exact .inl h4
 ·exact .inr ⟨g,h4,Nat.le_trans hb.size h5⟩
/-- arguments in memory: a row of the call's own whose elements are only read, and lie in no block of the bindings' row -/
def ARows (W:World) (row:Option Nat) (v:Value) (ls:List (List Cat.Cell)):Prop:=∃ base,Kd.N (Kd.slice 46 k46) 26 W base (fun k=>some k≠row) v ls
theorem ARows.step {W w':World} {row row1:Option Nat} {v:Value} {ls:List (List Cat.Cell)} (h:ARows W row v ls) (hg:W.grownBy w' row) (hr:row1=row∨∃ g,row1=some g∧W.heap.size≤g):ARows w' row1 v ls:=by
 obtain ⟨base,h⟩:=h
 refine ⟨base,Kd.N_mono (Kd.N_grown (Kd.N_bound h) hg (fun k hk=>hk.1)) (fun k hk=>?_)⟩
 rcases hr with rfl|⟨g,rfl,hg'⟩
 ·exact hk.1
 ·intro e;injection e with e;have:=hk.2;omega
theorem ARows.at_ {W:World} {row:Option Nat} {A:Option Addr} {n c:Nat} {ls:List (List Cat.Cell)} (h:ARows W row (.slice A n c) ls) (j:Nat) (hj:j<ls.length):n=ls.length∧∃ ad A1 c1,A=some ad∧W.cell? (ad.add j)=some (.slice A1 (ls[j]).length c1)∧(ls[j]).length≤c1∧Kd.F k46 W (fun k=>some k≠row) A1 (ls[j]).length (ls[j]):=by
 obtain ⟨base,h⟩:=h
 obtain ⟨e1,_,_⟩:=Kd.N_reads' h
 obtain ⟨g,cap,e2,_⟩:=Kd.N_form h (by omega)
 injection e2 with e2 e3 e4
 subst e2 e4
 obtain ⟨cs,hcl,hM,hcc⟩:=Kd.N_get h [] (j:Int) (by omega) (by omega)
 rw [Int.toNat_natCast] at hM hcc
 have eg:ls.getD j []=ls[j]:=by simp [List.getD,hj]
 rw [eg] at hM
 obtain ⟨A1,c1,rfl,ul,ge⟩:=Kd.FK_slice_open hM
 have hv:=hcc 0 _ rfl
 rw [Nat.add_zero,show (Kd.slice 46 k46).sz=1 from rfl,Nat.mul_one] at hv
 exact ⟨e1,_,A1,c1,rfl,hv,ul,Kd.F_mono ge (fun k hk=>hk.1)⟩
theorem grown_row {W wr w5:World} {row row':Option Nat} (h:W.grownBy wr row) (hr:row'=row∨∃ g,row'=some g∧W.heap.size≤g) (h5:wr.grownBy w5 row'):W.grownBy w5 row:=
 ⟨h5.os.trans h.os,h5.tape.trans h.tape,h5.output.trans h.output,Nat.le_trans h.size h5.size,fun i hi hg=>(h5.block i (Nat.lt_of_lt_of_le hi h.size) (by
  rcases hr with rfl|⟨g,rfl,hg'⟩
  ·exact hg
  ·intro e;injection e with e;omega)).trans (h.block i hi hg)⟩
theorem row_row {W wr:World} {row row' row5:Option Nat} (h:W.grownBy wr row) (hr:row'=row∨∃ g,row'=some g∧W.heap.size≤g) (h5:row5=row'∨∃ g,row5=some g∧wr.heap.size≤g):row5=row∨∃ g,row5=some g∧W.heap.size≤g:=by
 rcases h5 with rfl|⟨g,rfl,hg⟩
 ·exact hr
 ·exact .inr ⟨g,rfl,Nat.le_trans h.size hg⟩
/-! ### impl_bindings_one: function 69 -/
theorem Binds.none_ {w0 W:World} (h:Below w0.heap.size w0 W):Binds w0 W (.slice none 0 0) [] none:=
 ⟨h,by simp,[],⟨rfl,.inl ⟨rfl,none,rfl,fun _=>rfl,fun b e=>by cases e⟩⟩,fun j x hj=>by simp at hj⟩
end Go.Proofs.YtlaicnoikeieeaaDoor.P
