/- Contracts of functions of the program: each as a Lean function, and that its call does what that says; printed by cprint.py (this session) over print.py of the kit. Conditions: the hypotheses of each theorem. -/
import Derived.Test.YtlaicnoikeieeaaDoorP0
import Derived.Test.YtlaicnoikeieeaaDoorP4
import Derived.Test.YtlaicnoikeieeaaDoorP5
import Derived.Test.YtlaicnoikeieeaaDoorP6
namespace Go.Proofs.YtlaicnoikeieeaaDoor.P
open Go.RowKit Go.Proofs.YtlaicnoikeieeaaDoorW.PrintWords Go.Proofs.YtlaicnoikeieeaaDoorW.PrintLast Go.Proofs.YtlaicnoikeieeaaDoorW.PrintMore
attribute [local go_sem] max2_int min2_int max_two min_two max_three min_three max_four min_four   -- for this text's walks alone
set_option linter.unusedVariables false
set_option linter.unusedSimpArgs false
def BRow (w0 W:World) (v:Value) (n:Nat) (raws:List Value) (row:Option Nat):Prop:=
 raws.length=n * 2∧((row=none∧∃ ao,v = .slice ao n n∧(ao=none→n=0)∧∀ b,ao=some b→∀ j u,raws[j]?=some u→W.cell? (b.add j)=some u∧b.block<w0.heap.size)∨(row=v.ownBlock∧W.ownsRow w0.heap.size 30 2 v n raws))
def Elts (W:World) (row:Option Nat) (xs:List Cat.Bind) (raws:List Value):Prop:=
 ∀ j x,xs[j]?=some x→∃ A c,raws[j * 2]?=some (.int .i64 x.f0)∧raws[j * 2+1]?=some (.slice A x.f1.length c)∧x.f1.length≤c∧Kd.F k46 W (fun k=>some k≠row) A x.f1.length x.f1
def Binds (w0 W:World) (v:Value) (xs:List Cat.Bind) (row:Option Nat):Prop:=
 Below w0.heap.size w0 W∧xs.length≤1000000000∧∃ raws,BRow w0 W v xs.length raws row∧Elts W row xs raws
theorem brow_lt {w0 W:World} {v:Value} {n:Nat} {raws:List Value} {row:Option Nat} (h:BRow w0 W v n raws row):∀ k,row=some k→k<W.heap.size:=by
 intro k hk
 rcases h.2 with ⟨rfl,_⟩|⟨rfl,ho⟩
 ·cases hk
 ·rcases ho.2 with ⟨rfl,_⟩|⟨g,cap,cur,rfl,hg,hbk,_⟩
  ·cases hk
  ·have e:some g=some k:=hk
   injection e with e
   subst e
   rcases Nat.lt_or_ge g W.heap.size with h|h
   ·exact h
   ·rw [Array.getElem?_eq_none h] at hbk;cases hbk
theorem brow_cells {w0 W:World} {v:Value} {n:Nat} {raws:List Value} {row:Option Nat} (h:BRow w0 W v n raws row):∃ A c,v = .slice A n c∧n≤c∧(0<n→∃ ad,A=some ad∧∀ j u,raws[j]?=some u→W.cell? (ad.add j)=some u):=by
 rcases h.2 with ⟨rfl,ao,rfl,hn,hc⟩|⟨rfl,ho⟩
 ·refine ⟨ao,n,rfl,Nat.le_refl _,fun hp=>?_⟩
  cases ao with
  | none=>have:=hn rfl;omega
  | some b=>exact ⟨b,rfl,fun j u hj=>(hc b rfl j u hj).1⟩
 ·rcases ho.2 with ⟨rfl,rfl⟩|⟨g,cap,cur,rfl,hg,hb,hcap,hmax,hsz,htk⟩
  ·exact ⟨none,0,rfl,Nat.le_refl _,fun hp=>by omega⟩
  ·refine ⟨some ⟨g,0,none⟩,cap,rfl,hcap,fun hp=>⟨_,rfl,fun j u hj=>?_⟩⟩
   refine World.news_of_block hb j u ?_
   rw [← htk] at hj
   rw [List.getElem?_take] at hj
   split at hj
   ·exact hj
   ·cases hj
theorem brow_step {w0 W W':World} {v:Value} {n:Nat} {raws:List Value} {row:Option Nat} (h:BRow w0 W v n raws row) (hB:w0.heap.size≤W.heap.size) (hb:Below W.heap.size W W'):BRow w0 W' v n raws row:=by
 refine ⟨h.1,?_⟩
 rcases h.2 with ⟨rfl,ao,rfl,hn,hc⟩|⟨rfl,hl,ho⟩
 ·refine .inl ⟨rfl,ao,rfl,hn,fun b hb' j u hj=>?_⟩
  obtain ⟨q1,q2⟩:=hc b hb' j u hj
  exact ⟨(hb.cell (p:=b.add j) (by rw [add_block];omega)).trans q1,q2⟩
 ·refine .inr ⟨rfl,hl,?_⟩
  rcases ho with ⟨rfl,rfl⟩|⟨g,cap,cur,rfl,hg,hbk,hcap,hmax,hsz,htk⟩
  ·exact .inl ⟨rfl,rfl⟩
  ·refine .inr ⟨g,cap,cur,rfl,hg,?_,hcap,hmax,hsz,htk⟩
   have hlt:g<W.heap.size:=by
    rcases Nat.lt_or_ge g W.heap.size with h|h
    ·exact h
    ·rw [Array.getElem?_eq_none h] at hbk;cases hbk
   rw [hb.block g hlt];exact hbk
theorem elts_step {W W':World} {row:Option Nat} {xs:List Cat.Bind} {raws:List Value} (h:Elts W row xs raws) (hb:Below W.heap.size W W'):Elts W' row xs raws:=by
 intro j x hj
 obtain ⟨A,c,h1,h2,h3,h4⟩:=h j x hj
 exact ⟨A,c,h1,h2,h3,Kd.F_below h4 hb⟩
theorem Binds.step {w0 W W':World} {v:Value} {xs:List Cat.Bind} {row:Option Nat} (h:Binds w0 W v xs row) (hb:Below W.heap.size W W'):Binds w0 W' v xs row:=by
 obtain ⟨h0,hn,raws,h1,h2⟩:=h
 exact ⟨h0.trans (hb.mono h0.size),hn,raws,brow_step h1 h0.size hb,elts_step h2 hb⟩
theorem Binds.at_ {w0 W:World} {v:Value} {xs:List Cat.Bind} {row:Option Nat} (h:Binds w0 W v xs row):∃ A c,v = .slice A xs.length c∧xs.length≤c∧∀ j x,xs[j]?=some x→∃ ad A1 c1,A=some ad∧W.cell? (ad.add (j * 2))=some (.int .i64 x.f0)∧
  W.cell? (ad.add (j * 2+1))=some (.slice A1 x.f1.length c1)∧x.f1.length≤c1∧Kd.F k46 W (fun k=>some k≠row) A1 x.f1.length x.f1:=by
 obtain ⟨h0,hn,raws,h1,h2⟩:=h
 obtain ⟨A,c,e,hc,hcell⟩:=brow_cells h1
 refine ⟨A,c,e,hc,fun j x hj=>?_⟩
 obtain ⟨A1,c1,q1,q2,q3,q4⟩:=h2 j x hj
 have hlt:=(List.getElem?_eq_some_iff.1 hj).1
 obtain ⟨ad,ea,hcs⟩:=hcell (by omega)
 exact ⟨ad,A1,c1,ea,hcs _ _ q1,hcs _ _ q2,q3,q4⟩
theorem Binds.C {w0 W:World} {v:Value} {xs:List Cat.Bind} {row:Option Nat} (h:Binds w0 W v xs row):∃ A c,v = .slice A xs.length c∧xs.length≤c∧Kd.C k30 W A xs.length xs:=by
 obtain ⟨A,c,e,hc,hat⟩:=h.at_
 refine ⟨A,c,e,hc,rfl,by have:=h.2.1;omega,fun hp=>?_⟩
 obtain ⟨ad,A1,c1,ea,_⟩:=hat 0 xs[0] (by simp [hp])
 refine ⟨ad,ea,fun j x hj=>?_⟩
 obtain ⟨ad',A1,c1,ea',q1,q2,q3,q4⟩:=hat j x hj
 rw [ea] at ea'
 injection ea' with ea'
 subst ea'
 refine ⟨[.int .i64 x.f0,.slice A1 x.f1.length c1],rfl,k30_mk W x q3 (Kd.F_now q4),fun i u hi=>?_⟩
 match i,hi with
 | 0,hi=>obtain rfl:=Option.some.inj hi;exact q1
 | 1,hi=>obtain rfl:=Option.some.inj hi;exact q2
theorem Binds.getT {w0 W:World} {v:Value} {xs:List Cat.Bind} {row:Option Nat} (h:Binds w0 W v xs row):GetT v xs W (fun A t=>Kd.F k46 W (fun k=>some k≠row) A t.length t):=by
 refine ⟨fun A t h W' hb=>Kd.F_now (Kd.F_below h hb),fun a W' hb=>?_⟩
 obtain ⟨A0,c0,rfl,hc0,hat⟩:=h.at_
 have hq:∀ j:Nat,∃ q:Option Addr × Nat,∀ hj:j<xs.length,∃ ad,A0=some ad∧W.cell? (ad.add (j * 2))=some (.int .i64 (xs[j]).f0)∧W.cell? (ad.add (j * 2+1))=some (.slice q.1 (xs[j]).f1.length q.2)∧(xs[j]).f1.length≤q.2∧
   Kd.F k46 W (fun k=>some k≠row) q.1 (xs[j]).f1.length (xs[j]).f1:=fun j=>by
  by_cases hj:j<xs.length
  ·obtain ⟨ad,A1,c1,e1,q1,q2,q3,q4⟩:=hat j xs[j] (by simp [hj])
   exact ⟨(A1,c1),fun _=>⟨ad,e1,q1,q2,q3,q4⟩⟩
  ·exact ⟨(none,0),fun h=>absurd h hj⟩
 obtain ⟨q,hq⟩:=Classical.skolem.1 hq
 have er:∀ j,(h:j<xs.length)→rd_T30 xs (j:Int)=xs[j]:=fun j h=>by simp [rd_T30,List.getD,h]
 refine callsIn_wide.1 ((get_in Fence.wide 10 trivial trivial trivial rfl (by omega) A0 xs.length c0 (fun j=>(rd_T30 xs j).f0) (fun j=>(q j).1) (fun j=>(rd_T30 xs j).f1.length) (fun j=>(q j).2) (by have:=h.2.1;omega) a W' (fun j hj=>?_)).mono ?_)
 ·obtain ⟨ad,e1,q1,q2,_⟩:=hq j hj
  rw [er j hj]
  have hbk:=World.block_lt_of_cell? W _ q1
  rw [add_block] at hbk
  have e2:ad.add (j * 2+1)=⟨(ad.add (j * 2)).block,(ad.add (j * 2)).off+1,none⟩:=by rw [← add_field _ _ 1 (by omega)]
  have q3:=(hb.cell (p:=ad.add (j * 2+1)) (by rw [add_block];exact hbk)).trans q2
  rw [e2] at q3
  exact ⟨ad,e1,Nat.lt_of_lt_of_le hbk hb.size,(hb.cell (p:=ad.add (j * 2)) (by rw [add_block];exact hbk)).trans q1,q3⟩
 ·rintro e W2 ⟨⟨rfl,hne⟩|⟨j,hj,rfl,hv,hn⟩,hB⟩
  ·refine ⟨.inl ⟨getL_none _ _ (fun b hb=>?_),rfl⟩,hB⟩
   obtain ⟨j,hj,rfl⟩:=List.getElem_of_mem hb
   have:=hne j hj
   rwa [er j hj] at this
  ·obtain ⟨ad,_,_,_,h2,h3⟩:=hq j hj
   have e1:=er j hj
   simp only [e1] at h2 h3 hv ⊢
   exact ⟨.inr ⟨xs[j].f1,(q j).1,(q j).2,getL_at xs a j hj hv (fun i hi hij=>by rw [← er i hi];exact hn i hij hi),rfl,h2,h3⟩,hB⟩
theorem Binds.clip {w0:World} {A0:Option Addr} {s:List Cat.Bind} (hs:Kd.C k30 w0 A0 s.length s) (hn:s.length≤1000000000):Binds w0 w0 (.slice A0 s.length s.length) s none:=by
 refine ⟨Below.refl _ _,hn,?_⟩
 rcases Nat.eq_zero_or_pos s.length with h0|hp
 ·obtain rfl:=List.length_eq_zero_iff.1 h0
  refine ⟨[],⟨rfl,.inl ⟨rfl,A0,rfl,fun _=>rfl,fun b _ j u hj=>by simp at hj⟩⟩,fun j x hj=>by simp at hj⟩
 ·obtain ⟨ad,ea,hat⟩:=hs.2.2 hp
  have hq:∀ j:Nat,∃ cs:List Value,cs.length=2∧∀ x,s[j]?=some x→(k30.K w0 x cs∧∀ i u,cs[i]?=some u→w0.cell? (ad.add (j * 2+i))=some u):=fun j=>by
   cases hj:s[j]? with
   | none=>exact ⟨[undef,undef],rfl,fun x hx=>by cases hx⟩
   | some x=>
    obtain ⟨c,hc,hK,hcell⟩:=hat j x hj
    exact ⟨c,hc,fun y hy=>by injection hy with hy;subst hy;exact ⟨hK,hcell⟩⟩
  obtain ⟨q,hq⟩:=Classical.skolem.1 hq
  have hlen:∀ (n:Nat),(((List.range n).map q).flatten).length=n * 2:=fun n=>by
   induction n with
   | zero=>rfl
   | succ n ih=>rw [List.range_succ,List.map_append,List.flatten_append,List.length_append,ih];simp [(hq n).1];omega
  have hget:∀ (n j i:Nat),j<n→i<2→(((List.range n).map q).flatten)[j * 2+i]?=(q j)[i]?:=fun n=>by
   induction n with
   | zero=>intro j i h;omega
   | succ n ih=>
    intro j i hj hi
    rw [List.range_succ,List.map_append,List.flatten_append]
    rcases Nat.lt_or_ge j n with h|h
    ·rw [List.getElem?_append_left (by rw [hlen];omega),ih j i h hi]
    ·obtain rfl:j=n:=by omega
     rw [List.getElem?_append_right (by rw [hlen];omega),hlen]
     simp
  refine ⟨((List.range s.length).map q).flatten,⟨hlen _,.inl ⟨rfl,A0,rfl,(fun e=>by rw [ea] at e;cases e),fun b hb j u hj=>?_⟩⟩,fun j x hj=>?_⟩
  ·rw [ea] at hb
   injection hb with hb
   subst hb
   have hjl:j<s.length * 2:=by rw [← hlen];exact (List.getElem?_eq_some_iff.1 hj).1
   have ej:j=j / 2 * 2+j % 2:=by omega
   rw [ej,hget _ _ _ (by omega) (by omega)] at hj
   have hc:=((hq (j / 2)).2 s[j / 2] (List.getElem?_eq_getElem (by omega))).2 _ _ hj
   rw [← ej] at hc
   refine ⟨hc,?_⟩
   have:=World.block_lt_of_cell? w0 _ hc
   rwa [add_block] at this
  ·have hjl:=(List.getElem?_eq_some_iff.1 hj).1
   obtain ⟨hK,_⟩:=(hq j).2 x hj
   obtain ⟨A1,c1,ec,hl1,hC1⟩:=k30_open hK
   refine ⟨A1,c1,?_,?_,hl1,Kd.F_mono (Kd.C_F k46_heap hC1) (fun k _=>by simp)⟩
   ·have:=hget s.length j 0 hjl (by omega)
    rw [Nat.add_zero] at this
    rw [this,ec]
    exact rfl
   ·rw [hget s.length j 1 hjl (by omega),ec]
    exact rfl
section
variable {ops : Array Oper} {rest : List Oper} {o : Oper} {a : Act} {Q : Exit → Act → World → Prop}
theorem Binds.append {w0 W:World} {v:Value} {xs:List Cat.Bind} {row:Option Nat} (h:Binds w0 W v xs row) (hgd:o.guard=none) (sx x:Operand) (ho:o.op = .call { callee:=.builtin .append,args:=#[sx,x],argTypes:=#[85,85] })
  (hs:a.eval sx=v) (hx:a.eval x = .slice (some ⟨W.heap.size,0,none⟩) 1 1) (b:Int) (t:List Cat.Cell) (A:Option Addr) (c:Nat) (hl:t.length≤c) (hF:Kd.F k46 W (fun k=>some k≠row) A t.length t) (hn:xs.length<1000000000)
  (hK:∀ v1 w1 row1,Binds w0 w1 v1 (xs++[⟨b,t⟩]) row1→W.grownBy w1 row→(row1=row∨∃ g,row1=some g∧W.heap.size≤g)→wpList Tryd.prog ops Q rest (a.put o.dst v1) w1) :
  wpList Tryd.prog ops Q (o :: rest) a (W.alloc (.cells #[.int .i64 b,.slice A t.length c] 30)):=by
 obtain ⟨h0,_,raws,h1,h2⟩:=h
 have hbound:∀ {row1:Option Nat} {A1:Option Addr} {y:List Cat.Cell} {w1:World},W.grownBy w1 row→(row1=row∨∃ g,row1=some g∧W.heap.size≤g)→Kd.F k46 W (fun k=>some k≠row) A1 y.length y→Kd.F k46 w1 (fun k=>some k≠row1) A1 y.length y:=fun hg hr hF=>by
  intro W' hW
  refine hF W' (fun k hk hlt=>(hW k ?_ (Nat.lt_of_lt_of_le hlt hg.size)).trans (hg.block k hlt hk))
  rcases hr with rfl|⟨g,rfl,hg'⟩
  ·exact hk
  ·intro e;injection e with e;omega
 have helts:∀ {w1:World} {row1:Option Nat},W.grownBy w1 row→(row1=row∨∃ g,row1=some g∧W.heap.size≤g)→Elts w1 row1 (xs++[⟨b,t⟩]) (raws++[.int .i64 b,.slice A t.length c]):=fun hg hr j x hj=>by
  have hrl:=h1.1
  rcases Nat.lt_or_ge j xs.length with hjl|hjl
  ·rw [List.getElem?_append_left hjl] at hj
   obtain ⟨A1,c1,q1,q2,q3,q4⟩:=h2 j x hj
   exact ⟨A1,c1,by rw [List.getElem?_append_left (by omega)];exact q1,by rw [List.getElem?_append_left (by omega)];exact q2,q3,hbound hg hr q4⟩
  ·have hjx:=(List.getElem?_eq_some_iff.1 hj).1
   rw [List.length_append,List.length_singleton] at hjx
   obtain rfl:j=xs.length:=by omega
   rw [List.getElem?_append_right (Nat.le_refl _),Nat.sub_self] at hj
   obtain rfl:=Option.some.inj hj
   exact ⟨A,c,by rw [List.getElem?_append_right (by omega),hrl,Nat.sub_self];rfl,by rw [List.getElem?_append_right (by omega),hrl,show xs.length * 2+1 - xs.length * 2=1 by omega];rfl,hl,hbound hg hr hF⟩
 have hlen:(raws++[Value.int .i64 b,.slice A t.length c]).length=(xs++[(⟨b,t⟩:Cat.Bind)]).length * 2:=by
  have:=h1.1
  simp;omega
 have hxl:(xs++[(⟨b,t⟩:Cat.Bind)]).length=xs.length+1:=by simp
 rcases h1.2 with ⟨rfl,ao,rfl,hz,hc⟩|⟨rfl,hown⟩
 ·obtain ⟨i0,hi,hzz⟩:=Option.map_eq_some_iff.1 info30
  simp only [Prod.mk.injEq] at hzz
  obtain ⟨hz0,hz1,hz2⟩:=hzz
  refine wpList_append_grows (W.alloc (.cells #[.int .i64 b,.slice A t.length c] 30)) hgd sx x 85 ho 30 i0 (.agg #[.int .i64 0,.slice none 0 0]) 2 32 Tryd.underlying85 hi hz0 hz1 hz2 rfl (by decide) ao xs.length xs.length raws hs (fun e=>⟨hz e,hz e⟩) h1.1 (fun b' hb j u hj=>?_)
   ⟨W.heap.size,0,none⟩ 1 1 [.int .i64 b,.slice A t.length c] hx rfl (by simpa using World.news_of_block (cs:=#[.int .i64 b,.slice A t.length c]) (t:=30) (fr:=(0,0)) (heap_alloc_new W (.cells #[.int .i64 b,.slice A t.length c] 30))) (by simp [Value.oneCell']) (by omega) (by simp only [maxLen];omega) (by omega) ?_
  ·obtain ⟨q1,q2⟩:=hc b' hb j u hj
   have hB:Below W.heap.size W (W.alloc (.cells #[.int .i64 b,.slice A t.length c] 30)):=(Below.refl _ _).alloc (Nat.le_refl _) _
   exact (hB.cell (p:=b'.add j) (by rw [add_block];have:=h0.size;omega)).trans q1
  ·intro v1 w1 hown hg
   have hgW:=World.grownBy.trans (World.grownBy_alloc W _ _) hg
   have hsz:W.heap.size≤(W.alloc (.cells #[.int .i64 b,.slice A t.length c] 30)).heap.size:=by simp
   have hr:v1.ownBlock=none∨∃ g,v1.ownBlock=some g∧W.heap.size≤g:=by
    rcases hown.2 with ⟨_,e⟩|⟨g,cap,cur,rfl,hge,_⟩
    ·omega
    ·exact .inr ⟨g,rfl,Nat.le_trans hsz hge⟩
   have hown':w1.ownsRow w0.heap.size 30 2 v1 (xs.length+1) (raws++[.int .i64 b,.slice A t.length c]):=by
    refine ⟨hown.1,?_⟩
    rcases hown.2 with h|⟨g,cap,cur,e1,hge,e2⟩
    ·exact .inl h
    ·exact .inr ⟨g,cap,cur,e1,Nat.le_trans h0.size (Nat.le_trans hsz hge),e2⟩
   exact hK v1 w1 v1.ownBlock ⟨h0.trans ((below_grown hgW).mono h0.size),by omega,_,⟨hlen,.inr ⟨rfl,by rw [hxl];exact hown'⟩⟩,helts hgW hr⟩ hgW hr
 ·refine print_append_cells (w0:=w0) (W:=W) w0.heap.size hgd sx x 85 30 (.agg #[.int .i64 0,.slice none 0 0]) 2 32 ho Tryd.underlying85 info30 rfl (by decide) (by decide) v xs.length raws [.int .i64 b,.slice A t.length c] hs hx rfl (by simp [Value.oneCell']) hown h0 h0.size (by omega) ?_
  intro v1 w1 hown1 hb1 hg1 hat1
  exact hK v1 w1 v1.ownBlock ⟨hb1,by omega,_,⟨hlen,.inr ⟨rfl,by rw [hxl];exact hown1⟩⟩,helts hg1 hat1⟩ hg1 hat1
end
theorem seenF_none:seenF (fun _=>false)=fun _=>none:=by funext z;rfl
set_option maxHeartbeats 8000000 in
set_option maxRecDepth 100000 in
theorem bind_calls (w0:World) (v:Value) (xs:List Cat.Bind) (row:Option Nat) (W:World) (K k:Nat) (b:Int) (t:List Cat.Cell) (A:Option Addr) (c:Nat) (q:Bool) (sn':Int→Bool) (hb:Binds w0 W v xs row) (hl:t.length≤c) (ht:t.length<4398046511104) (hn:xs.length<1000000000)
  (hF:Kd.F k46 W (fun k=>some k≠row) A t.length t) (hh:holdF xs K b k (fun _=>false) t=some (q,sn')) :
  Calls Tryd.prog 102 #[v,.int .i64 b,.slice A t.length c] W fun e w'=>∃ v1 row1,e = .returned (.tuple #[v1,.bool (!q)])∧(q=false→Binds w0 w' v1 (xs++[⟨b,t⟩]) row1)∧W.grownBy w' row∧(row1=row∨∃ g,row1=some g∧W.heap.size≤g):=by
 have HB:=Aside0.mk hb
 have HF:=Aside0.mk hF
 have HH:=Aside0.mk hh
 have HT:=Aside0.mk hb.getT
 have HL:=Aside0.mk hl
 have HN:=Aside0.mk ht
 have HX:=Aside0.mk hn
 have HRL:Aside0 (∀ k,row=some k→k<W.heap.size):=by
  obtain ⟨_,_,raws,h1,_⟩:=hb
  exact ⟨brow_lt h1⟩
 obtain ⟨Av,cv,ev,hcv,hC⟩:=hb.C
 subst ev
 clear hb hF hh hl ht hn hcv hC
 have hmm:=@run_makeMap Tryd.prog
 have HM0:=Aside0.mk (show Mp.MapIs Tryd.prog 3 (W.alloc (.map #[] 0)) W.heap.size (seenF (fun _=>false)) by rw [seenF_none];exact Mp.MapIs.made _ _ W)
 have HB0:=Aside0.mk ((Below.refl W.heap.size W).alloc (Nat.le_refl _) (.map #[] 0))
 cases q with
 | true=>
  go_enter Tryd.func102,Tryd.ntmps102
  go_wp2_with (go_at_call 108;refine (holds_any W (.slice Av xs.length cv) xs _ HT.out K b W.heap.size (Nat.le_refl _) k (fun _=>false) t true sn' A c _ HH.out HM0.out HB0.out HF.out HL.out).mono ?_;rintro e w1 ⟨rfl,hm1,hg1⟩;have HB1:=Aside0.mk (below_seen HB0.out hg1 (Nat.le_refl _));clear hm1 hg1)
  go_ret2
  exact ⟨_,row,rfl,(fun e=>by cases e),grown_below HB1.out row,.inl rfl⟩
 | false=>
  go_enter Tryd.func102,Tryd.ntmps102
  go_wp2_with (first
   | (go_at_call 108;refine (holds_any W (.slice Av xs.length cv) xs _ HT.out K b W.heap.size (Nat.le_refl _) k (fun _=>false) t false sn' A c _ HH.out HM0.out HB0.out HF.out HL.out).mono ?_;rintro e w1 ⟨rfl,hm1,hg1⟩;have HB1:=Aside0.mk (below_seen HB0.out hg1 (Nat.le_refl _));clear hm1 hg1)
   | (go_at_call 55;refine (slices_Clone_TrmCell.calls A c t t _ (Kd.F_now (Kd.F_below HF.out HB1.out)) HL.out (if_pos HN.out)).mono ?_;rintro e w2 ⟨v2,rfl,ho2,hb2⟩;obtain ⟨A2,c2,rfl⟩:=Kd.R_slice ho2;have HO2:=Aside0.mk ho2;have HB2:=Aside0.mk hb2;clear ho2 hb2)
   | ((with_reducible refine gate_builtin (b:=.append) (xs:=#[.tmp 13,.tmp 18]) rfl ?_);at_builtin;refine Binds.append (HB.out.step (HB1.out.trans (HB2.out.mono HB1.out.size))) rfl (.tmp 13) (.tmp 18) rfl rfl rfl b t A2 c2 ?aL ?aF HX.out ?_;(case aL=>exact (Kd.R_reads' HO2.out).2.1);(case aF=>refine Kd.F_mono (Kd.R_F (Kd.R_bound HO2.out)) (fun k_ hk_ e_=>?_);have h1_:=HRL.out k_ e_.symm;have h2_:=hk_.2.1;have h3_:=HB1.out.size;omega);intro v9 w9 row9 hb9 hg9 hr9;have HB9:=Aside0.mk hb9;have HG9:=Aside0.mk hg9;have HR9:=Aside0.mk hr9;clear hb9 hg9 hr9))
  go_ret2
  refine ⟨v9,row9,rfl,fun _=>HB9.out,grown_both (grown_below (HB1.out.trans (HB2.out.mono HB1.out.size)) row) HG9.out,?_⟩
  rcases HR9.out with h|⟨g,h1,h2⟩
  ·exact .inl h
  ·exact .inr ⟨g,h1,Nat.le_trans (Nat.le_trans HB1.out.size HB2.out.size) h2⟩
def bindF (K:Nat) (s:List Cat.Bind) (v:Int) (t:List Cat.Cell):Option (Option (List Cat.Bind)):=
 if s.length<1000000000∧t.length<4398046511104 then (holdF s K v K (fun _=>false) t).bind fun r=>some (if r.1=true then none else some (s++[⟨v,t⟩])) else none
def uniL (f:List Cat.Bind→List Cat.Cell→List Cat.Cell→Option (Option (List Cat.Bind))):List Cat.Bind→List (List Cat.Cell)→List (List Cat.Cell)→Option (Option (List Cat.Bind))
 | s,[],_=>some (some s)
 | _,_ :: _,[]=>none
 | s,a :: as_,o :: os=>(f s a o).bind fun r=>match r with
  | none=>some none
  | some s'=>uniL f s' as_ os
def uniF (K:Nat):Nat→List Cat.Bind→List Cat.Cell→List Cat.Cell→Option (Option (List Cat.Bind))
 | 0,_,_,_=>none
 | k+1,s,a,b=>(walkF s K a).bind fun a'=>(walkF s K b).bind fun b'=>match a',b' with
  | x :: l,y :: m=>if x.f0=1∧x=y then some (some s) else if x.f0=1 then bindF K s x.f1 (y :: m) else if y.f0=1 then bindF K s y.f1 (x :: l) else if x≠y then some none else
    (impl_args.f K (y :: m)).bind fun os=>(impl_args.f K (x :: l)).bind fun as_=>uniL (uniF K k) s as_ os
  | _,_=>none
theorem walkF_some {s:List Cat.Bind}:∀ {k:Nat} {t r:List Cat.Cell},walkF s k t=some r→∃ c l,r=c :: l
 | 0,t,r,h=>by cases h
 | k+1,[],r,h=>by cases h
 | k+1,c :: l,r,h=>by
  rw [walkF] at h
  by_cases hv:c.f0=1
  ·rw [if_pos hv] at h
   cases hg:getL s c.f1 with
   | none=>rw [hg] at h;exact ⟨c,l,(Option.some.inj h).symm⟩
   | some t=>
    rw [hg] at h
    replace h:(if t=[] then none else walkF s k t)=some r:=h
    by_cases ht:t=[]
    ·rw [if_pos ht] at h;cases h
    ·rw [if_neg ht] at h;exact walkF_some h
  ·rw [if_neg hv] at h
   exact ⟨c,l,(Option.some.inj h).symm⟩
def cellEq (x y:Cat.Cell):Bool:=x.f0 == y.f0 && (x.f1 == y.f1 && (x.f2.toList == y.f2.toList))
theorem cellEq_iff (x y:Cat.Cell):cellEq x y=true↔x=y:=by
 unfold cellEq
 constructor
 ·intro h
  simp only [Bool.and_eq_true,beq_iff_eq] at h
  exact Cat.Cell.ext' h.1 h.2.1 (Cat.ba_ext (by rw [← Lib.toList_data,← Lib.toList_data];exact h.2.2))
 ·rintro rfl;simp
theorem eqC46 (d:Nat) (w:World) (x y:Cat.Cell):(Op.equalIn (d+2) 46 (.agg #[.int .i64 x.f0,.int .i64 x.f1,.string x.f2]) (.agg #[.int .i64 y.f0,.int .i64 y.f1,.string y.f2])).run Tryd.prog w = .ok (cellEq x y) w:=by
 refine eqA_of Tryd.underlying46 (by kernel_rfl) ?_
 unfold cellEq
 refine eqf_cons (by rfl) (by go_simp;rfl) (by go_simp;rfl) (by go_simp) ?_
 refine eqf_cons (by rfl) (by go_simp;rfl) (by go_simp;rfl) (by go_simp) ?_
 exact eqf_last (by rfl) (by go_simp;rfl) (by go_simp;rfl) (by go_simp)
theorem head_cells (c:Cat.Cell) (l:List Cat.Cell) (W:World) (A:Option Addr) (h:Kd.C k46 W A (c :: l).length (c :: l)):∃ ad:Addr,A=some ad∧W.cell? ad=some (.int .i64 c.f0)∧W.cell? ⟨ad.block,ad.off+1,none⟩=some (.int .i64 c.f1)∧W.cell? ⟨ad.block,ad.off+2,none⟩=some (.string c.f2):=by
 obtain ⟨ad,e1,h0,h1,h2⟩:=at_T46 h 0 (Int.le_refl _) (by rw [List.length_cons];omega)
 exact ⟨ad,e1,h0,h1,h2⟩
theorem bindF_some {K:Nat} {s:List Cat.Bind} {v:Int} {t:List Cat.Cell} {q:Option (List Cat.Bind)} (h:bindF K s v t=some q):s.length<1000000000∧t.length<4398046511104∧∃ b sn,holdF s K v K (fun _=>false) t=some (b,sn)∧q=(if b=true then none else some (s++[⟨v,t⟩])):=by
 unfold bindF at h
 by_cases h1:s.length<1000000000∧t.length<4398046511104
 ·rw [if_pos h1] at h
  obtain ⟨⟨b,sn⟩,h2,h3⟩:=Option.bind_eq_some_iff.1 h
  exact ⟨h1.1,h1.2,b,sn,h2,(Option.some.inj h3).symm⟩
 ·rw [if_neg h1] at h;cases h
def UPost (w0 W:World) (row:Option Nat) (q:Option (List Cat.Bind)) (e:Ending) (w':World):Prop:=
 ∃ v1 row1,e = .returned (.tuple #[v1,.bool q.isSome])∧(∀ s',q=some s'→Binds w0 w' v1 s' row1)∧W.grownBy w' row∧(row1=row∨∃ g,row1=some g∧W.heap.size≤g)
theorem UPost.from {w0 W W1:World} {row:Option Nat} {q:Option (List Cat.Bind)} {e:Ending} {w':World} (hb:W.grownBy W1 row) (h:UPost w0 W1 row q e w'):UPost w0 W row q e w':=by
 obtain ⟨v1,row1,h1,h2,h3,h4⟩:=h
 refine ⟨v1,row1,h1,h2,grown_both hb h3,?_⟩
 rcases h4 with h4|⟨g,h4,h5⟩
 ·exact .inl h4
 ·exact .inr ⟨g,h4,Nat.le_trans hb.size h5⟩
theorem bindF_calls (w0:World) (v:Value) (xs:List Cat.Bind) (row:Option Nat) (W:World) (K:Nat) (b:Int) (c0:Cat.Cell) (t:List Cat.Cell) (A:Option Addr) (c:Nat) (q:Option (List Cat.Bind)) (hb:Binds w0 W v xs row) (hl:(c0 :: t).length≤c)
  (hF:Kd.F k46 W (fun k=>some k≠row) A (c0 :: t).length (c0 :: t)) (h:bindF K xs b (c0 :: t)=some q) :
  Calls Tryd.prog 102 #[v,.int .i64 b,.slice A (t.length+1) c] W (UPost w0 W row q):=by
 obtain ⟨h1,h2,b1,sn,h3,rfl⟩:=bindF_some h
 refine (bind_calls w0 v xs row W K K b (c0 :: t) A c b1 sn hb hl h2 h1 hF h3).mono ?_
 rintro e w' ⟨v1,row1,rfl,g1,g2,g3⟩
 refine ⟨v1,row1,?_,?_,g2,g3⟩
 ·cases b1 <;> rfl
 ·intro s' hs
  cases b1 with
  | true=>cases hs
  | false=>cases hs;exact g1 rfl
def ARows (W:World) (row:Option Nat) (v:Value) (ls:List (List Cat.Cell)):Prop:=∃ base,Kd.N (Kd.slice 46 k46) 26 W base (fun k=>some k≠row) v ls
theorem ARows.step {W w':World} {row row1:Option Nat} {v:Value} {ls:List (List Cat.Cell)} (h:ARows W row v ls) (hg:W.grownBy w' row) (hr:row1=row∨∃ g,row1=some g∧W.heap.size≤g):ARows w' row1 v ls:=by
 obtain ⟨base,h⟩:=h
 refine ⟨base,Kd.N_mono (Kd.N_grown (Kd.N_bound h) hg (fun k hk=>hk.1)) (fun k hk=>?_)⟩
 rcases hr with rfl|⟨g,rfl,hg'⟩
 ·exact hk.1
 ·intro e;injection e with e;have:=hk.2;omega
theorem ARows.at_ {W:World} {row:Option Nat} {A:Option Addr} {n c:Nat} {ls:List (List Cat.Cell)} (h:ARows W row (.slice A n c) ls) (j:Nat) (hj:j<ls.length):n=ls.length∧∃ ad A1 c1,A=some ad∧W.cell? (ad.add j)=some (.slice A1 (ls[j]).length c1)∧(ls[j]).length≤c1∧Kd.F k46 W (fun k=>some k≠row) A1 (ls[j]).length (ls[j]):=by
 obtain ⟨base,h⟩:=h
 obtain ⟨e1,_,_⟩:=Kd.N_reads' h
 obtain ⟨g,cap,e2,_⟩:=Kd.N_form h (by omega)
 injection e2 with e2 e3 e4
 subst e2 e4
 obtain ⟨cs,hcl,hM,hcc⟩:=Kd.N_get h [] (j:Int) (by omega) (by omega)
 rw [Int.toNat_natCast] at hM hcc
 have eg:ls.getD j []=ls[j]:=by simp [List.getD,hj]
 rw [eg] at hM
 obtain ⟨A1,c1,rfl,ul,ge⟩:=Kd.FK_slice_open hM
 have hv:=hcc 0 _ rfl
 rw [Nat.add_zero,show (Kd.slice 46 k46).sz=1 from rfl,Nat.mul_one] at hv
 exact ⟨e1,_,A1,c1,rfl,hv,ul,Kd.F_mono ge (fun k hk=>hk.1)⟩
theorem args_calls (W:World) (row:Option Nat) (K:Nat) (c0:Cat.Cell) (t:List Cat.Cell) (A:Option Addr) (c:Nat) (r:List (List Cat.Cell)) (hl:(c0 :: t).length≤c) (hrow:∀ k,row=some k→k<W.heap.size) (hF:Kd.F k46 W (fun k=>some k≠row) A (c0 :: t).length (c0 :: t)) (h:impl_args.f K (c0 :: t)=some r) :
  Calls Tryd.prog 85 #[.slice A (t.length+1) c] W fun e w'=>∃ A' c',e = .returned (.slice A' r.length c')∧ARows w' row (.slice A' r.length c') r∧r.length≤9223372036854775807∧Below W.heap.size W w':=by
 refine (impl_args.calls K (fun k=>some k≠row) A c (c0 :: t) r W (Kd.V_mk hl hF) h).mono ?_
 rintro e w' ⟨v,rfl,hn,hb⟩
 obtain ⟨A',c',rfl⟩:=Kd.N_slice hn
 refine ⟨A',c',rfl,⟨_,Kd.N_mono hn (fun k hk=>?_)⟩,(Kd.N_reads' hn).2.2.2.1,hb⟩
 rcases hk with hk|hk
 ·exact hk
 ·intro e;have:=hrow k e.symm;omega
theorem grown_row {W wr w5:World} {row row':Option Nat} (h:W.grownBy wr row) (hr:row'=row∨∃ g,row'=some g∧W.heap.size≤g) (h5:wr.grownBy w5 row'):W.grownBy w5 row:=
 ⟨h5.os.trans h.os,h5.tape.trans h.tape,h5.output.trans h.output,Nat.le_trans h.size h5.size,fun i hi hg=>(h5.block i (Nat.lt_of_lt_of_le hi h.size) (by
  rcases hr with rfl|⟨g,rfl,hg'⟩
  ·exact hg
  ·intro e;injection e with e;omega)).trans (h.block i hi hg)⟩
theorem row_row {W wr:World} {row row' row5:Option Nat} (h:W.grownBy wr row) (hr:row'=row∨∃ g,row'=some g∧W.heap.size≤g) (h5:row5=row'∨∃ g,row5=some g∧wr.heap.size≤g):row5=row∨∃ g,row5=some g∧W.heap.size≤g:=by
 rcases h5 with rfl|⟨g,rfl,hg⟩
 ·exact hr
 ·exact .inr ⟨g,rfl,Nat.le_trans h.size hg⟩
def ULoop (w0 W:World) (row:Option Nat) (K k:Nat) (as_ os:List (List Cat.Cell)) (q:Option (List Cat.Bind)) (va vo:Value) (j:Nat) (u0:Value) (wr:World):Prop:=
 ∃ (s:List Cat.Bind) (row':Option Nat),Binds w0 wr u0 s row'∧ARows wr row' va as_∧ARows wr row' vo os∧W.grownBy wr row∧(row'=row∨∃ g,row'=some g∧W.heap.size≤g)∧uniL (uniF K k) s (as_.drop j) (os.drop j)=some q
attribute [local go_sem 20000] eqC46 in
set_option maxHeartbeats 16000000 in
set_option maxRecDepth 100000 in
theorem impl_bindings_unify.any (w0:World) (K:Nat):∀ (k:Nat) (xs:List Cat.Bind) (a b:List Cat.Cell) (q:Option (List Cat.Bind)) (v:Value) (row:Option Nat) (A B:Option Addr) (ca cb:Nat) (W:World),uniF K k xs a b=some q→Binds w0 W v xs row→
  a.length≤ca→b.length≤cb→Kd.F k46 W (fun k=>some k≠row) A a.length a→Kd.F k46 W (fun k=>some k≠row) B b.length b→
  Calls Tryd.prog 95 #[v,.slice A a.length ca,.slice B b.length cb] W (UPost w0 W row q):=by
 intro k
 induction k with
 | zero=>intro xs a b q v row A B ca cb W h;cases h
 | succ k ih=>
  intro xs a b q v row A B ca cb W h hb hla hlb hFa hFb
  rw [uniF] at h
  obtain ⟨a',ha',h2⟩:=Option.bind_eq_some_iff.1 h
  obtain ⟨b',hb',h3⟩:=Option.bind_eq_some_iff.1 h2
  clear h h2
  obtain ⟨x,l,rfl⟩:=walkF_some ha'
  obtain ⟨y,m,rfl⟩:=walkF_some hb'
  have HH:=Aside0.mk h3
  have HA:=Aside0.mk ha'
  have HB':=Aside0.mk hb'
  have HBI:=Aside0.mk hb
  have HI:=Aside0.mk ih
  have HT:=Aside0.mk hb.getT
  have HFA:=Aside0.mk hFa
  have HFB:=Aside0.mk hFb
  have HLA:=Aside0.mk hla
  have HLB:=Aside0.mk hlb
  have hu46:=Tryd.underlying46
  obtain ⟨Av,cv,ev,hcv,hC⟩:=hb.C
  subst ev
  clear h3 ha' hb' hb ih hFa hFb hcv hC
  go_enter Tryd.func95,Tryd.ntmps95
  have hpos1:0<l.length+1:=by omega
  have hpos2:0<m.length+1:=by omega
  have HPx:=Aside0.mk (show ∀ (W':World) (A1:Option Addr),Kd.C k46 W' A1 (x :: l).length (x :: l)→∃ ad:Addr,A1=some ad∧W'.cell? ad=some (.int .i64 x.f0)∧W'.cell? ⟨ad.block,ad.off+1,none⟩=some (.int .i64 x.f1)∧W'.cell? ⟨ad.block,ad.off+2,none⟩=some (.string x.f2) from head_cells x l)
  have HPy:=Aside0.mk (show ∀ (W':World) (A1:Option Addr),Kd.C k46 W' A1 (y :: m).length (y :: m)→∃ ad:Addr,A1=some ad∧W'.cell? ad=some (.int .i64 y.f0)∧W'.cell? ⟨ad.block,ad.off+1,none⟩=some (.int .i64 y.f1)∧W'.cell? ⟨ad.block,ad.off+2,none⟩=some (.string y.f2) from head_cells y m)
  go_wp2_with (first
   | (go_at_call 101;(with_reducible refine (walk_calls W (.slice Av xs.length cv) xs _ HT.out K a (x :: l) A ca _ HA.out (Below.refl _ _) HFA.out HLA.out).mono ?_);rintro e w1 ⟨⟨A1,c1,rfl,hl1,hF1⟩,hb1⟩;have HL1:=Aside0.mk hl1;have HF1:=Aside0.mk hF1;have HB1:=Aside0.mk hb1;clear hl1 hF1 hb1)
   | (go_at_call 101;(with_reducible refine (walk_calls W (.slice Av xs.length cv) xs _ HT.out K b (y :: m) B cb _ HB'.out HB1.out HFB.out HLB.out).mono ?_);rintro e w2 ⟨⟨A2,c2,rfl,hl2,hF2⟩,hb2⟩;have HL2:=Aside0.mk hl2;have HF2:=Aside0.mk hF2;have HB2:=Aside0.mk (HB1.out.trans (hb2.mono HB1.out.size));clear hl2 hF2 hb2))
  have hC1:=HT.out.1 _ _ HF1.out _ HB2.out
  have hC2:=HT.out.1 _ _ HF2.out _ HB2.out
  obtain ⟨ad1,e1,hx0,hx1,hx2⟩:=HPx.out _ _ hC1
  obtain ⟨ad2,e2,hy0,hy1,hy2⟩:=HPy.out _ _ hC2
  subst e1 e2
  clear hC1 hC2
  have HBd:=HB2
  have HRL:Aside0 (∀ k,row=some k→k<W.heap.size):=by
   obtain ⟨_,_,raws,h1,_⟩:=HBI.out
   exact ⟨brow_lt h1⟩
  have HFX:=Aside0.mk (show ∀ W',Below W.heap.size W W'→Kd.F k46 W' (fun k=>some k≠row) (some ad1) (x :: l).length (x :: l) from fun W' h=>Kd.F_below HF1.out h)
  have HFY:=Aside0.mk (show ∀ W',Below W.heap.size W W'→Kd.F k46 W' (fun k=>some k≠row) (some ad2) (y :: m).length (y :: m) from fun W' h=>Kd.F_below HF2.out h)
  clear HF1 HF2
  by_cases hxv:x.f0=1
  ·have hxt:(x.f0 == 1)=true:=by simpa using hxv
   have HXV:=Aside0.mk hxv
   clear hxv
   by_cases hxy:x=y
   ·have hq:cellEq x y=true:=(cellEq_iff x y).2 hxy
    have HXY:=Aside0.mk hxy
    clear hxy
    go_quiet (fail)
    go_wp2
    go_ret2
    have h1:=HH.out
    rw [if_pos ⟨HXV.out,HXY.out⟩] at h1
    obtain rfl:=Option.some.inj h1
    exact ⟨_,row,rfl,(fun s' e=>by cases e;exact HBI.out.step (pw_below_drewN HB2.out _)),grown_below (pw_below_drewN HB2.out _) row,.inl rfl⟩
   ·have hq:cellEq x y=false:=Bool.eq_false_iff.2 (fun h=>hxy ((cellEq_iff x y).1 h))
    have HXY:=Aside0.mk hxy
    clear hxy
    have HBF:Aside0 (bindF K xs x.f1 (y :: m)=some q):=⟨by
     have h1:=HH.out
     rw [if_neg (fun h=>HXY.out h.2),if_pos HXV.out] at h1
     exact h1⟩
    go_quiet (fail)
    go_wp2_with (go_at_call 102;(with_reducible refine (bindF_calls w0 (.slice Av xs.length cv) xs row _ K x.f1 y m (some ad2) c2 q (HBI.out.step (pw_below_drewN HB2.out _)) HL2.out (HFY.out _ (pw_below_drewN HB2.out _)) HBF.out).mono ?_);rintro e w3 hpost;have HP:=Aside0.mk (UPost.from (grown_below (pw_below_drewN HB2.out _) row) hpost);obtain ⟨v3,row3,rfl,_⟩:=hpost)
    go_ret2
    obtain ⟨v4,row4,e4,h4⟩:=HP.out
    injection e4 with e4
    injection e4 with e4
    simp only [Array.mk.injEq,List.cons.injEq,and_true] at e4
    obtain rfl:=e4
    exact ⟨_,row4,rfl,h4⟩
  ·have hxt:(x.f0 == 1)=false:=by simpa using hxv
   have HXV:=Aside0.mk hxv
   clear hxv
   by_cases hyv:y.f0=1
   ·have hyt:(y.f0 == 1)=true:=by simpa using hyv
    have HYV:=Aside0.mk hyv
    clear hyv
    have HBF:Aside0 (bindF K xs y.f1 (x :: l)=some q):=⟨by
     have h1:=HH.out
     rw [if_neg (fun h=>HXV.out h.1),if_neg HXV.out,if_pos HYV.out] at h1
     exact h1⟩
    go_quiet (fail)
    go_wp2_with (go_at_call 102;(with_reducible refine (bindF_calls w0 (.slice Av xs.length cv) xs row _ K y.f1 x l (some ad1) c1 q (HBI.out.step (pw_below_drewN HB2.out _)) HL1.out (HFX.out _ (pw_below_drewN HB2.out _)) HBF.out).mono ?_);rintro e w3 hpost;have HP:=Aside0.mk (UPost.from (grown_below (pw_below_drewN HB2.out _) row) hpost);obtain ⟨v3,row3,rfl,_⟩:=hpost)
    go_ret2
    obtain ⟨v4,row4,e4,h4⟩:=HP.out
    injection e4 with e4
    injection e4 with e4
    simp only [Array.mk.injEq,List.cons.injEq,and_true] at e4
    obtain rfl:=e4
    exact ⟨_,row4,rfl,h4⟩
   ·have hyt:(y.f0 == 1)=false:=by simpa using hyv
    have HYV:=Aside0.mk hyv
    clear hyv
    by_cases hxy:x=y
    ·have hq:cellEq x y=true:=(cellEq_iff x y).2 hxy
     have HXY:=Aside0.mk hxy
     clear hxy
     have h1:=HH.out
     rw [if_neg (fun h=>HXV.out h.1),if_neg HXV.out,if_neg HYV.out,if_neg (fun h=>h HXY.out)] at h1
     obtain ⟨os,ho1,h2⟩:=Option.bind_eq_some_iff.1 h1
     obtain ⟨as_,ha1,h3⟩:=Option.bind_eq_some_iff.1 h2
     have HAO:=Aside0.mk ho1
     have HAA:=Aside0.mk ha1
     have HU:=Aside0.mk h3
     clear h1 h2 h3 ho1 ha1
     go_quiet (fail)
     go_wp2
     go_quiet (fail)
     go_wp2_with (first
      | (go_at_call 85;(with_reducible refine (args_calls _ row K y m (some ad2) c2 os HL2.out (fun k hk=>Nat.lt_of_lt_of_le (HRL.out k hk) (pw_below_drewN HB2.out _).size) (HFY.out _ (pw_below_drewN HB2.out _)) HAO.out).mono ?_);rintro e w3 ⟨Ao,co,rfl,hR3,hm3,hb3⟩;have HR3:=Aside0.mk hR3;have HB3:=Aside0.mk ((pw_below_drewN HB2.out _).trans (hb3.mono (pw_below_drewN HB2.out _).size));clear hR3 hb3)
      | (go_at_call 85;(with_reducible refine (args_calls _ row K x l (some ad1) c1 as_ HL1.out (fun k hk=>Nat.lt_of_lt_of_le (HRL.out k hk) HB3.out.size) (HFX.out _ HB3.out) HAA.out).mono ?_);rintro e w4 ⟨Aa,ca4,rfl,hR4,hm4,hb4⟩;have HR4:=Aside0.mk hR4;have HR5:=Aside0.mk (HR3.out.step (grown_below hb4 row) (.inl rfl));have HB4:=Aside0.mk (HB3.out.trans (hb4.mono HB3.out.size));clear hR4 hb4))
     have HLP:=Aside0.mk (show ULoop w0 W row K k as_ os q (.slice Aa as_.length ca4) (.slice Ao os.length co) 0 (.slice Av xs.length cv) w4 from
      ⟨xs,row,HBI.out.step HB4.out,HR4.out,HR5.out,grown_below HB4.out row,.inl rfl,by rw [List.drop_zero,List.drop_zero];exact HU.out⟩)
     clear HR3 HR4 HR5 HB3 HB4 HFX HFY HA HB' HH HAO HAA HU hx0 hx1 hx2 hy0 hy1 hy2 hq hxt hyt hu46
     go_loopg [0,9,10,11,12,78] as_.length (fun gg u0 _ _ _ _ s78 wr=>∃ j:Nat,j≤as_.length∧as_.length - j≤gg∧s78 = .int .i64 j∧Aside0 (ULoop w0 W row K k as_ os q (.slice Aa as_.length ca4) (.slice Ao os.length co) j u0 wr))
     case atStart=>exact ⟨0,Nat.zero_le _,by omega,rfl,HLP⟩
     case round=>
      obtain ⟨j,hj,hgg,rfl,HLj⟩:=hrel
      by_cases hlt:j<as_.length
      ·have hltz:(j:Int)<(as_.length:Int):=by omega
       obtain ⟨s,row',hBs,hRa,hRo,hgr,hrr,hul⟩:=HLj.out
       rw [List.drop_eq_getElem_cons hlt] at hul
       by_cases hlo:j<os.length
       case neg=>
        have e0:os.drop j=[]:=List.drop_eq_nil_of_le (by omega)
        rw [e0,uniL] at hul
        cases hul
       have hloz:(j:Int)<(os.length:Int):=by omega
       rw [List.drop_eq_getElem_cons hlo,uniL] at hul
       obtain ⟨q1,hq1,hq2⟩:=Option.bind_eq_some_iff.1 hul
       obtain ⟨_,ada,A1,c1_,ea,hca,hla1,hFa1⟩:=hRa.at_ j hlt
       obtain ⟨_,ado,A2,c2_,eo,hco,hlo1,hFo1⟩:=hRo.at_ j hlo
       subst ea eo
       have HCALL:=Aside0.mk (HI.out s as_[j] os[j] q1 _ row' A1 A2 c1_ c2_ wr hq1 hBs hla1 hlo1 hFa1 hFo1)
       have HRA:=Aside0.mk hRa
       have HRO:=Aside0.mk hRo
       have HGR:=Aside0.mk hgr
       have HRR:=Aside0.mk hrr
       have HQ2:=Aside0.mk hq2
       generalize as_[j]=a1 at hca HCALL
       generalize os[j]=o1 at hco HCALL
       clear hul hq1 hq2 hBs hRa hRo hla1 hlo1 hFa1 hFo1 hgr hrr
       cases q1 with
       | none=>
        go_wp2_with (go_at_call 95;(with_reducible refine HCALL.out.mono ?_);rintro e w5 ⟨v5,row5,rfl,_,hg5,hr5⟩;have HG5:=Aside0.mk hg5;have HR5:=Aside0.mk hr5;clear hg5 hr5)
        go_ret2
        have h1:=HQ2.out
        obtain rfl:=Option.some.inj h1
        exact ⟨_,row5,rfl,(fun s' e=>by cases e),grown_row HGR.out HRR.out HG5.out,row_row HGR.out HRR.out HR5.out⟩
       | some s1=>
        go_wp2_with (go_at_call 95;(with_reducible refine HCALL.out.mono ?_);rintro e w5 ⟨v5,row5,rfl,hB5,hg5,hr5⟩;have HB5:=Aside0.mk (hB5 s1 rfl);have HG5:=Aside0.mk hg5;have HR5:=Aside0.mk hr5;clear hB5 hg5 hr5)
        go_roundg (as_.length - (j+1))
        case measure=>omega
        case rel=>
         exact ⟨j+1,by omega,by omega,by go_num,⟨s1,row5,HB5.out,HRA.out.step HG5.out HR5.out,HRO.out.step HG5.out HR5.out,grown_row HGR.out HRR.out HG5.out,row_row HGR.out HRR.out HR5.out,HQ2.out⟩⟩
      ·have hltz:¬ (j:Int)<(as_.length:Int):=by omega
       obtain ⟨s,row',hBs,hRa,hRo,hgr,hrr,hul⟩:=HLj.out
       rw [List.drop_eq_nil_of_le (by omega),uniL] at hul
       obtain rfl:=Option.some.inj hul
       clear hRa hRo hul
       have HBS:=Aside0.mk hBs
       have HGR:=Aside0.mk hgr
       have HRR:=Aside0.mk hrr
       clear hBs hgr hrr
       go_wp2
       go_ret2
       exact ⟨_,row',rfl,(fun s' e=>by cases e;exact HBS.out),HGR.out,HRR.out⟩
    ·have hq:cellEq x y=false:=Bool.eq_false_iff.2 (fun h=>hxy ((cellEq_iff x y).1 h))
     have HXY:=Aside0.mk hxy
     clear hxy
     go_quiet (fail)
     go_wp2
     go_quiet (fail)
     go_wp2
     go_ret2
     have h1:=HH.out
     rw [if_neg (fun h=>HXV.out h.1),if_neg HXV.out,if_neg HYV.out,if_pos HXY.out] at h1
     obtain rfl:=Option.some.inj h1
     exact ⟨_,row,rfl,(fun s' e=>by cases e),grown_below (pw_below_drewN (pw_below_drewN HB2.out _) _) row,.inl rfl⟩
def oneF (K:Nat) (s:List Cat.Bind) (a b:List Cat.Cell):Option (List Cat.Bind × Int):=
 if s.length≤1000000000 then (impl_bindings_full.f K s a).bind fun r1=>(impl_bindings_full.f K s b).bind fun r2=>if r1.2=false then some ([],3) else if r2.2=false then some ([],3) else
  (uniF K K s a b).bind fun q=>match q with
   | none=>some ([],2)
   | some x=>(impl_bindings_full.f K x a).bind fun r3=>if r3.2=false then some ([],3) else some (x,1)
 else none
theorem Binds.none_ {w0 W:World} (h:Below w0.heap.size w0 W):Binds w0 W (.slice none 0 0) [] none:=
 ⟨h,by simp,[],⟨rfl,.inl ⟨rfl,none,rfl,fun _=>rfl,fun b e=>by cases e⟩⟩,fun j x hj=>by simp at hj⟩
def OnePost (w0:World) (x:List Cat.Bind) (code:Int) (e:Ending) (w':World):Prop:=∃ A c row,e = .returned (.tuple #[.slice A x.length c,.int .i64 code])∧Binds w0 w' (.slice A x.length c) x row∧Below w0.heap.size w0 w'
set_option maxHeartbeats 16000000 in
set_option maxRecDepth 100000 in
theorem impl_bindings_one.any (w:World) (K:Nat) (s:List Cat.Bind) (a b:List Cat.Cell) (x:List Cat.Bind) (code:Int) (A0 A1 A2:Option Addr) (c0 c1 c2:Nat) (hs:Kd.C k30 w A0 s.length s) (hc0:s.length≤c0)
  (ha:Kd.C k46 w A1 a.length a) (hc1:a.length≤c1) (hb:Kd.C k46 w A2 b.length b) (hc2:b.length≤c2) (h:oneF K s a b=some (x,code)) :
  Calls Tryd.prog 69 #[.slice A0 s.length c0,.slice A1 a.length c1,.slice A2 b.length c2] w (OnePost w x code):=by
 unfold oneF at h
 by_cases hn:s.length≤1000000000
 case neg=>rw [if_neg hn] at h;cases h
 rw [if_pos hn] at h
 obtain ⟨⟨l1,b1⟩,h1,h2⟩:=Option.bind_eq_some_iff.1 h
 obtain ⟨⟨l2,b2⟩,h3,h4⟩:=Option.bind_eq_some_iff.1 h2
 have H1:=Aside0.mk h1
 have H2:=Aside0.mk h3
 have H4:=Aside0.mk h4
 have HS:=Aside0.mk hs
 have HA:=Aside0.mk ha
 have HB:=Aside0.mk hb
 have HN:=Aside0.mk hn
 clear h h1 h2 h3 h4 hs ha hb
 have HFA:=Aside0.mk (show Kd.F k46 w (fun k=>some k≠(none:Option Nat)) A1 a.length a from Kd.F_mono (Kd.C_F k46_heap HA.out) (fun k _=>by simp))
 have HFB:=Aside0.mk (show Kd.F k46 w (fun k=>some k≠(none:Option Nat)) A2 b.length b from Kd.F_mono (Kd.C_F k46_heap HB.out) (fun k _=>by simp))
 cases b1 with
 | false=>
  have h5:=H4.out
  rw [if_pos rfl] at h5
  have H5:=Aside0.mk h5
  clear h5 H4
  go_enter Tryd.func69,Tryd.ntmps69
  go_wp2_with (first
   | (go_at_call 75;(with_reducible refine (impl_bindings_full.calls K A0 c0 s A1 c1 a l1 false w HS.out hc0 HA.out hc1 H1.out).mono ?_);rintro e w1 ⟨v1,rfl,_,hb1⟩;have HB1:=Aside0.mk hb1;clear hb1)
   | (go_at_call 75;(with_reducible refine (impl_bindings_full.calls K A0 c0 s A2 c2 b l2 b2 _ (Kd.C_below HS.out HB1.out) hc0 (Kd.C_below HB.out HB1.out) hc2 H2.out).mono ?_);rintro e w2 ⟨v2,rfl,_,hb2⟩;have HB2:=Aside0.mk (HB1.out.trans (hb2.mono HB1.out.size));clear hb2))
  go_ret2
  have h6:=Option.some.inj H5.out
  injection h6 with h6 h7
  subst h6 h7
  exact ⟨none,0,none,rfl,Binds.none_ HB2.out,HB2.out⟩
 | true=>
 cases b2 with
 | false=>
  have h5:=H4.out
  rw [if_neg (by simp),if_pos rfl] at h5
  have H5:=Aside0.mk h5
  clear h5 H4
  go_enter Tryd.func69,Tryd.ntmps69
  go_wp2_with (first
   | (go_at_call 75;(with_reducible refine (impl_bindings_full.calls K A0 c0 s A1 c1 a l1 true w HS.out hc0 HA.out hc1 H1.out).mono ?_);rintro e w1 ⟨v1,rfl,_,hb1⟩;have HB1:=Aside0.mk hb1;clear hb1)
   | (go_at_call 75;(with_reducible refine (impl_bindings_full.calls K A0 c0 s A2 c2 b l2 false _ (Kd.C_below HS.out HB1.out) hc0 (Kd.C_below HB.out HB1.out) hc2 H2.out).mono ?_);rintro e w2 ⟨v2,rfl,_,hb2⟩;have HB2:=Aside0.mk (HB1.out.trans (hb2.mono HB1.out.size));clear hb2))
  go_ret2
  have h6:=Option.some.inj H5.out
  injection h6 with h6 h7
  subst h6 h7
  exact ⟨none,0,none,rfl,Binds.none_ HB2.out,HB2.out⟩
 | true=>
  have h5:=H4.out
  rw [if_neg (by simp),if_neg (by simp)] at h5
  obtain ⟨q,hq,h6⟩:=Option.bind_eq_some_iff.1 h5
  have HU:=Aside0.mk hq
  have H6:=Aside0.mk h6
  clear h5 hq h6 H4
  cases q with
  | none=>
   go_enter Tryd.func69,Tryd.ntmps69
   go_wp2_with (first
   | (go_at_call 75;(with_reducible refine (impl_bindings_full.calls K A0 c0 s A1 c1 a l1 true w HS.out hc0 HA.out hc1 H1.out).mono ?_);rintro e w1 ⟨v1,rfl,_,hb1⟩;have HB1:=Aside0.mk hb1;clear hb1)
   | (go_at_call 75;(with_reducible refine (impl_bindings_full.calls K A0 c0 s A2 c2 b l2 true _ (Kd.C_below HS.out HB1.out) hc0 (Kd.C_below HB.out HB1.out) hc2 H2.out).mono ?_);rintro e w2 ⟨v2,rfl,_,hb2⟩;have HB2:=Aside0.mk (HB1.out.trans (hb2.mono HB1.out.size));clear hb2)
   | (go_at_call 94;(with_reducible refine (clip_calls A0 s.length c0 _ hc0 (by omega)).mono ?_);rintro e w3 ⟨rfl,rfl⟩)
   | (go_at_call 95;(with_reducible refine (impl_bindings_unify.any w K K s a b none (.slice A0 s.length s.length) none A1 A2 c1 c2 _ HU.out ((Binds.clip HS.out HN.out).step HB2.out) hc1 hc2 (Kd.F_below HFA.out HB2.out) (Kd.F_below HFB.out HB2.out)).mono ?_);rintro e w4 ⟨v4,row4,rfl,hB4,hg4,_⟩;have HG4:=Aside0.mk (HB2.out.trans ((below_grown hg4).mono HB2.out.size));clear hB4 hg4))
   go_ret2
   have h6:=Option.some.inj H6.out
   injection h6 with h6 h7
   subst h6 h7
   exact ⟨none,0,none,rfl,Binds.none_ HG4.out,HG4.out⟩
  | some y=>
   obtain ⟨⟨l3,b3⟩,h7,h8⟩:=Option.bind_eq_some_iff.1 H6.out
   have H7:=Aside0.mk h7
   have H8:=Aside0.mk h8
   clear h7 h8 H6
   cases b3 with
   | false=>
    have H9:=Aside0.mk (H8.out.symm.trans (if_pos rfl)).symm
    clear H8
    go_enter Tryd.func69,Tryd.ntmps69
    go_wp2_with (first
   | (go_at_call 75;(with_reducible refine (impl_bindings_full.calls K A0 c0 s A1 c1 a l1 true w HS.out hc0 HA.out hc1 H1.out).mono ?_);rintro e w1 ⟨v1,rfl,_,hb1⟩;have HB1:=Aside0.mk hb1;clear hb1)
   | (go_at_call 75;(with_reducible refine (impl_bindings_full.calls K A0 c0 s A2 c2 b l2 true _ (Kd.C_below HS.out HB1.out) hc0 (Kd.C_below HB.out HB1.out) hc2 H2.out).mono ?_);rintro e w2 ⟨v2,rfl,_,hb2⟩;have HB2:=Aside0.mk (HB1.out.trans (hb2.mono HB1.out.size));clear hb2)
   | (go_at_call 94;(with_reducible refine (clip_calls A0 s.length c0 _ hc0 (by omega)).mono ?_);rintro e w3 ⟨rfl,rfl⟩)
   | (go_at_call 95;(with_reducible refine (impl_bindings_unify.any w K K s a b (some y) (.slice A0 s.length s.length) none A1 A2 c1 c2 _ HU.out ((Binds.clip HS.out HN.out).step HB2.out) hc1 hc2 (Kd.F_below HFA.out HB2.out) (Kd.F_below HFB.out HB2.out)).mono ?_);rintro e w4 ⟨v4,row4,rfl,hB4,hg4,_⟩;have HG4:=Aside0.mk (HB2.out.trans ((below_grown hg4).mono HB2.out.size));have HB4:=Aside0.mk (hB4 y rfl);clear hB4 hg4;obtain ⟨A4,c4,ev4,hc4,hC4⟩:=HB4.out.C;subst ev4;have HC4:=Aside0.mk hC4;clear hC4)
   | (go_at_call 75;(with_reducible refine (impl_bindings_full.calls K A4 c4 y A1 c1 a l3 false _ HC4.out hc4 (Kd.C_below HA.out HG4.out) hc1 H7.out).mono ?_);rintro e w5 ⟨v5,rfl,_,hb5⟩;have HB5:=Aside0.mk (HG4.out.trans (hb5.mono HG4.out.size));clear hb5))
    go_ret2
    have h7:=Option.some.inj H9.out
    injection h7 with h7 h8
    subst h7 h8
    exact ⟨none,0,none,rfl,Binds.none_ HB5.out,HB5.out⟩
   | true=>
    have H9:=Aside0.mk (H8.out.symm.trans (if_neg (by simp))).symm
    clear H8
    go_enter Tryd.func69,Tryd.ntmps69
    go_wp2_with (first
   | (go_at_call 75;(with_reducible refine (impl_bindings_full.calls K A0 c0 s A1 c1 a l1 true w HS.out hc0 HA.out hc1 H1.out).mono ?_);rintro e w1 ⟨v1,rfl,_,hb1⟩;have HB1:=Aside0.mk hb1;clear hb1)
   | (go_at_call 75;(with_reducible refine (impl_bindings_full.calls K A0 c0 s A2 c2 b l2 true _ (Kd.C_below HS.out HB1.out) hc0 (Kd.C_below HB.out HB1.out) hc2 H2.out).mono ?_);rintro e w2 ⟨v2,rfl,_,hb2⟩;have HB2:=Aside0.mk (HB1.out.trans (hb2.mono HB1.out.size));clear hb2)
   | (go_at_call 94;(with_reducible refine (clip_calls A0 s.length c0 _ hc0 (by omega)).mono ?_);rintro e w3 ⟨rfl,rfl⟩)
   | (go_at_call 95;(with_reducible refine (impl_bindings_unify.any w K K s a b (some y) (.slice A0 s.length s.length) none A1 A2 c1 c2 _ HU.out ((Binds.clip HS.out HN.out).step HB2.out) hc1 hc2 (Kd.F_below HFA.out HB2.out) (Kd.F_below HFB.out HB2.out)).mono ?_);rintro e w4 ⟨v4,row4,rfl,hB4,hg4,_⟩;have HG4:=Aside0.mk (HB2.out.trans ((below_grown hg4).mono HB2.out.size));have HB4:=Aside0.mk (hB4 y rfl);clear hB4 hg4;obtain ⟨A4,c4,ev4,hc4,hC4⟩:=HB4.out.C;subst ev4;have HC4:=Aside0.mk hC4;clear hC4)
   | (go_at_call 75;(with_reducible refine (impl_bindings_full.calls K A4 c4 y A1 c1 a l3 true _ HC4.out hc4 (Kd.C_below HA.out HG4.out) hc1 H7.out).mono ?_);rintro e w5 ⟨v5,rfl,_,hb5⟩;have HB6:=Aside0.mk (HB4.out.step hb5);have HB5:=Aside0.mk (HG4.out.trans (hb5.mono HG4.out.size));clear hb5))
    go_ret2
    have h7:=Option.some.inj H9.out
    injection h7 with h7 h8
    subst h7 h8
    exact ⟨A4,c4,row4,rfl,HB6.out,HB5.out⟩
end Go.Proofs.YtlaicnoikeieeaaDoor.P
