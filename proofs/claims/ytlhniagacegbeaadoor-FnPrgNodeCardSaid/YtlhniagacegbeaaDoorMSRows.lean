/- Rows of rows whose elements lie apart: the elements, each with its own blocks. -/
import Derived.Test.YtlhniagacegbeaaDoorV0
import Derived.WalkKit
namespace Go.Proofs.YtlhniagacegbeaaDoorW.PrintWords
set_option linter.unusedVariables false
set_option linter.unusedSimpArgs false
open Go.RowKit
namespace Kd
theorem S_rows {α:Type} {d:Kd α} {e e' base:Nat} {w:World} {ok:Nat→Prop} {v:Value} {xs:List (List α)} (h:S (Kd.slice e d) e' w base ok v xs) :
  ∃ (f:Nat→Nat) (inner:List Value),w.ownsRow base e' 1 v xs.length inner∧∀ j x,xs[j]?=some x→∃ u,inner[j]?=some u∧d.R e w base (fun k=>f k=j∧some k≠v.ownBlock) u x:=by
 obtain ⟨f,h0,inner,ho,hr⟩:=h
 rw [List.length_zipIdx] at ho
 refine ⟨f,inner,ho,fun j x hj=>?_⟩
 obtain ⟨u,hc,hR⟩:=hr.2 j (x,j) (zip_at hj)
 refine ⟨u,?_,R_mono hR (fun k hk=>⟨hk.2,hk.1.2⟩)⟩
 have hc':(inner.drop (j * 1)).take 1=[u]:=hc
 rw [Nat.mul_one] at hc'
 have e1:inner[j]?=(List.take 1 (inner.drop j))[0]?:=by simp
 rw [e1,hc'];rfl
theorem own_cells {w:World} {base e' n:Nat} {v:Value} {inner:List Value} (h:w.ownsRow base e' 1 v n inner) (hn:0<n) :
  ∃ g cap,v = .slice (some ⟨g,0,none⟩) n cap∧base≤g∧n≤cap∧(∀ j u,inner[j]?=some u→w.cell? ⟨g,j,none⟩=some u)∧∃ cells,w.heap[g]?=some (.cells cells e' (0,0)):=by
 rcases h.2 with ⟨_,h0⟩|⟨g,cap,cur,rfl,hg,hh,hle,hcap,hsz,ht⟩
 ·omega
 ·refine ⟨g,cap,rfl,hg,hle,fun j u hj=>?_,cur,hh⟩
  rw [← ht,Nat.mul_one] at hj
  have hj2:cur.toList[j]?=some u:=by
   by_cases hl:j<n
   ·rwa [List.getElem?_take_of_lt hl] at hj
   ·rw [List.getElem?_take_eq_none (by omega)] at hj;cases hj
  simp only [World.cell?,hh]
  simpa using hj2
theorem apart_rows {α:Type} {d:Kd α} {e base base':Nat} {w w':World} {f:Nat→Nat} {i j:Nat} {u v t:Value} {x y:List α} (hu:d.R e w base (fun k=>f k=i∧some k≠t.ownBlock) u x) (hv:d.R e w' base' (fun k=>f k=j∧some k≠t.ownBlock) v y) (hij:i≠j):∀ k,(f k=i∧some k≠t.ownBlock)→some k≠v.ownBlock:=by
 intro k hk hv2
 have:=hv.1 k hv2.symm
 exact hij (hk.1.symm.trans this.1)
end Kd
section
variable {w : World} {g : Nat} {t : TypeId} {a b c d e : Value}
theorem blk2 (h:w.heap[g]?=some (.cells #[a,b] t (0,0))):w.cell? ⟨g,0,none⟩=some a∧w.cell? ⟨g,1,none⟩=some b∧w.frozen? ⟨g,0,none⟩=false∧w.frozen? ⟨g,1,none⟩=false:=⟨(blk_cell h 0).trans rfl,(blk_cell h 1).trans rfl,blk_frozen h 0,blk_frozen h 1⟩
theorem blk3 (h:w.heap[g]?=some (.cells #[a,b,c] t (0,0))):w.cell? ⟨g,0,none⟩=some a∧w.cell? ⟨g,1,none⟩=some b∧w.cell? ⟨g,2,none⟩=some c∧w.frozen? ⟨g,0,none⟩=false∧w.frozen? ⟨g,1,none⟩=false∧w.frozen? ⟨g,2,none⟩=false:=⟨(blk_cell h 0).trans rfl,(blk_cell h 1).trans rfl,(blk_cell h 2).trans rfl,blk_frozen h 0,blk_frozen h 1,blk_frozen h 2⟩
theorem blk4 (h:w.heap[g]?=some (.cells #[a,b,c,d] t (0,0))):w.cell? ⟨g,0,none⟩=some a∧w.cell? ⟨g,1,none⟩=some b∧w.cell? ⟨g,2,none⟩=some c∧w.cell? ⟨g,3,none⟩=some d∧w.frozen? ⟨g,0,none⟩=false∧w.frozen? ⟨g,1,none⟩=false∧w.frozen? ⟨g,2,none⟩=false∧w.frozen? ⟨g,3,none⟩=false:=⟨(blk_cell h 0).trans rfl,(blk_cell h 1).trans rfl,(blk_cell h 2).trans rfl,(blk_cell h 3).trans rfl,blk_frozen h 0,blk_frozen h 1,blk_frozen h 2,blk_frozen h 3⟩
end
theorem Kd.R_put1 {α:Type} {d:Kd α} {e base:Nat} {w:World} {ok:Nat→Prop} {v:Value} {xs:List α} {g t:Nat} {cells:Array Value} {j0:Nat} {u0:Value} (h:d.R e w base ok v xs) (hb:w.heap[g]?=some (.cells cells t (0,0))) (ht:∀ q,q ∈ e :: d.E→q≠t:=by decide):d.R e (w.setCell ⟨g,j0,none⟩ u0) base (fun k=>ok k∧k≠g) v xs:=Kd.R_far (p:=⟨g,j0,none⟩) (Kd.R_types h hb ht) (fun _ hk=>hk.2) u0
theorem Kd.R_put2 {α:Type} {d:Kd α} {e base:Nat} {w:World} {ok:Nat→Prop} {v:Value} {xs:List α} {g t:Nat} {cells:Array Value} {j0 j1:Nat} {u0 u1:Value} (h:d.R e w base ok v xs) (hb:w.heap[g]?=some (.cells cells t (0,0))) (ht:∀ q,q ∈ e :: d.E→q≠t:=by decide):d.R e ((w.setCell ⟨g,j0,none⟩ u0).setCell ⟨g,j1,none⟩ u1) base (fun k=>ok k∧k≠g) v xs:=Kd.R_far (p:=⟨g,j1,none⟩) (Kd.R_far (p:=⟨g,j0,none⟩) (Kd.R_types h hb ht) (fun _ hk=>hk.2) u0) (fun _ hk=>hk.2) u1
theorem Kd.R_put4 {α:Type} {d:Kd α} {e base:Nat} {w:World} {ok:Nat→Prop} {v:Value} {xs:List α} {g t:Nat} {cells:Array Value} {j0 j1 j2 j3:Nat} {u0 u1 u2 u3:Value} (h:d.R e w base ok v xs) (hb:w.heap[g]?=some (.cells cells t (0,0))) (ht:∀ q,q ∈ e :: d.E→q≠t:=by decide):d.R e ((((w.setCell ⟨g,j0,none⟩ u0).setCell ⟨g,j1,none⟩ u1).setCell ⟨g,j2,none⟩ u2).setCell ⟨g,j3,none⟩ u3) base (fun k=>ok k∧k≠g) v xs:=Kd.R_far (p:=⟨g,j3,none⟩) (Kd.R_far (p:=⟨g,j2,none⟩) (Kd.R_far (p:=⟨g,j1,none⟩) (Kd.R_far (p:=⟨g,j0,none⟩) (Kd.R_types h hb ht) (fun _ hk=>hk.2) u0) (fun _ hk=>hk.2) u1) (fun _ hk=>hk.2) u2) (fun _ hk=>hk.2) u3
theorem Kd.Rp {α:Type} {d:Kd α} {e base:Nat} {w w1:World} {ok:Nat→Prop} {v:Value} {xs:List α} (h:d.R e w base ok v xs) (hb:Below w.heap.size w w1:=by (repeat (first|(with_reducible exact Below.refl _ _)|apply below_alloc|apply pw_below_drewN|apply below_drew1|exact Below.refl _ _)) <;> fail):d.R e w1 base ok v xs:=Kd.R_below h hb
theorem Kd.Sp {α:Type} {d:Kd α} {e base:Nat} {w w1:World} {ok:Nat→Prop} {v:Value} {xs:List α} (h:Kd.S d e w base ok v xs) (hb:Below w.heap.size w w1:=by (repeat (first|(with_reducible exact Below.refl _ _)|apply below_alloc|apply pw_below_drewN|apply below_drew1|exact Below.refl _ _)) <;> fail):Kd.S d e w1 base ok v xs:=Kd.S_below h hb
theorem blkp {w w1:World} {g:Nat} {o:Obj} (h:w.heap[g]?=some o) (hb:Below w.heap.size w w1:=by (repeat (first|(with_reducible exact Below.refl _ _)|apply below_alloc|apply pw_below_drewN|apply below_drew1|exact Below.refl _ _)) <;> fail):w1.heap[g]?=some o:=blk_below h hb
theorem blk_put2 {w:World} {g:Nat} {t:TypeId} {x0 x1 u0 u1:Value} (h:w.heap[g]?=some (.cells #[x0,x1] t (0,0))):((w.setCell ⟨g,0,none⟩ u0).setCell ⟨g,1,none⟩ u1).heap[g]?=some (.cells #[u0,u1] t (0,0)):=(blk_put (cs':=#[u0,u1]) (blk_put (cs':=#[u0,x1]) h 0 u0 rfl) 1 u1 rfl)
theorem blk_far2 {w:World} {g b:Nat} {t:TypeId} {cs:Array Value} {j0 j1:Nat} {u0 u1:Value} (hn:g≠b) (h:w.heap[g]?=some (.cells cs t (0,0))):((w.setCell ⟨b,j0,none⟩ u0).setCell ⟨b,j1,none⟩ u1).heap[g]?=some (.cells cs t (0,0)):=blk_far (p:=⟨b,j1,none⟩) (blk_far (p:=⟨b,j0,none⟩) (h) hn u0) hn u1
theorem blk_put4 {w:World} {g:Nat} {t:TypeId} {x0 x1 x2 x3 u0 u1 u2 u3:Value} (h:w.heap[g]?=some (.cells #[x0,x1,x2,x3] t (0,0))):((((w.setCell ⟨g,0,none⟩ u0).setCell ⟨g,1,none⟩ u1).setCell ⟨g,2,none⟩ u2).setCell ⟨g,3,none⟩ u3).heap[g]?=some (.cells #[u0,u1,u2,u3] t (0,0)):=(blk_put (cs':=#[u0,u1,u2,u3]) (blk_put (cs':=#[u0,u1,u2,x3]) (blk_put (cs':=#[u0,u1,x2,x3]) (blk_put (cs':=#[u0,x1,x2,x3]) h 0 u0 rfl) 1 u1 rfl) 2 u2 rfl) 3 u3 rfl)
theorem blk_far4 {w:World} {g b:Nat} {t:TypeId} {cs:Array Value} {j0 j1 j2 j3:Nat} {u0 u1 u2 u3:Value} (hn:g≠b) (h:w.heap[g]?=some (.cells cs t (0,0))):((((w.setCell ⟨b,j0,none⟩ u0).setCell ⟨b,j1,none⟩ u1).setCell ⟨b,j2,none⟩ u2).setCell ⟨b,j3,none⟩ u3).heap[g]?=some (.cells cs t (0,0)):=blk_far (p:=⟨b,j3,none⟩) (blk_far (p:=⟨b,j2,none⟩) (blk_far (p:=⟨b,j1,none⟩) (blk_far (p:=⟨b,j0,none⟩) (h) hn u0) hn u1) hn u2) hn u3
theorem Am {p:Prop} (h:p):Aside0 p:=⟨h⟩
abbrev BA:=ByteArray
theorem ifS {α:Type} {c:Prop} [Decidable c] {x y:Option α} {r:α} (h:(if c then x else y)=some r) (hy:¬ y=some r:=by simp):c∧x=some r:=by
 by_cases hc:c
 ·rw [if_pos hc] at h;exact ⟨hc,h⟩
 ·rw [if_neg hc] at h;exact absurd h hy
theorem ifN {α:Type} {c:Prop} [Decidable c] {x y:Option α} {r:α} (h:(if c then x else y)=some r) (hx:¬ x=some r:=by simp):¬ c∧y=some r:=by
 by_cases hc:c
 ·rw [if_pos hc] at h;exact absurd h hx
 ·rw [if_neg hc] at h;exact ⟨hc,h⟩
theorem bnd {α β:Type} {o:Option α} {f:α→Option β} {r:β} (h:o.bind f=some r):∃ a,Aside0 (o=some a)∧f a=some r:=by
 obtain ⟨a,h1,h2⟩:=Option.bind_eq_some_iff.mp h
 exact ⟨a,⟨h1⟩,h2⟩
theorem cB {w w':World} {p:Addr} {v:Value} (h:w.cell? p=some v) (hb:Below w.heap.size w w'):w'.cell? p=some v:=(hb.cell (World.block_lt_of_cell? w _ h)).trans h
theorem et2 {p q:Prop} (h:p) (k:q):p=True∧q=True:=⟨eq_true h,eq_true k⟩
theorem oi {α:Type} {a b:α} (h:some a=some b):a=b:=Option.some.inj h
theorem tn0:((0:Int)).toNat=0:=rfl
theorem rpS {w:World} {base:Nat} {ok:Nat→Prop}:∀ xs:List ByteArray,Reps (Kd.string.M w base ok) Kd.string.sz xs (xs.map .string)
 | []=>Reps.none _ _
 | x :: xs=>Reps.one (show Kd.M Kd.string _ _ _ x [.string x] from rfl) (rpS xs)
theorem rpI {k:IntKind} {w:World} {base:Nat} {ok:Nat→Prop}:∀ xs:List Int,Reps ((Kd.int k).M w base ok) (Kd.int k).sz xs (xs.map (.int k))
 | []=>Reps.none _ _
 | x :: xs=>Reps.one (show Kd.M (Kd.int k) _ _ _ x [.int k x] from rfl) (rpI xs)
theorem nft:¬ (false=true):=by decide
theorem sA_ {α:Type} {l:List α} {i:Nat} {a:α}:l.toArray.setIfInBounds i a=(l.set i a).toArray:=List.setIfInBounds_toArray ..
theorem sZ_ {α:Type} {a b:α} {l:List α}:(a :: l).set 0 b=b :: l:=rfl
theorem sS_ {α:Type} {a b:α} {l:List α} {n:Nat}:(a :: l).set (n+1) b=a :: l.set n b:=rfl
theorem mA_ {α β:Type} {f:α→β} {l:List α}:l.toArray.map f=(l.map f).toArray:=List.map_toArray ..
theorem mC_ {α β:Type} {f:α→β} {a:α} {l:List α}:(a :: l).map f=f a :: l.map f:=rfl
theorem mN_ {α β:Type} {f:α→β}:([]:List α).map f=[]:=rfl
theorem bqP {α:Type} [BEq α] [LawfulBEq α] {a b:α} (h:a=b):(a == b)=true∧(a != b)=false:=⟨beq_iff_eq.mpr h,bne_eq_false_iff_eq.mpr h⟩
theorem bqN {α:Type} [BEq α] [LawfulBEq α] {a b:α} (h:¬ a=b):(a == b)=false∧(a != b)=true:=⟨beq_eq_false_iff_ne.mpr h,bne_iff_ne.mpr h⟩
theorem as2 {p0 p1:Prop} (h0:p0) (h1:p1):Aside0 p0∧Aside0 p1:=⟨⟨h0⟩,⟨h1⟩⟩
theorem as3 {p0 p1 p2:Prop} (h0:p0) (h1:p1) (h2:p2):Aside0 p0∧Aside0 p1∧Aside0 p2:=⟨⟨h0⟩,⟨h1⟩,⟨h2⟩⟩
theorem as4 {p0 p1 p2 p3:Prop} (h0:p0) (h1:p1) (h2:p2) (h3:p3):Aside0 p0∧Aside0 p1∧Aside0 p2∧Aside0 p3:=⟨⟨h0⟩,⟨h1⟩,⟨h2⟩,⟨h3⟩⟩
theorem as5 {p0 p1 p2 p3 p4:Prop} (h0:p0) (h1:p1) (h2:p2) (h3:p3) (h4:p4):Aside0 p0∧Aside0 p1∧Aside0 p2∧Aside0 p3∧Aside0 p4:=⟨⟨h0⟩,⟨h1⟩,⟨h2⟩,⟨h3⟩,⟨h4⟩⟩
theorem as6 {p0 p1 p2 p3 p4 p5:Prop} (h0:p0) (h1:p1) (h2:p2) (h3:p3) (h4:p4) (h5:p5):Aside0 p0∧Aside0 p1∧Aside0 p2∧Aside0 p3∧Aside0 p4∧Aside0 p5:=⟨⟨h0⟩,⟨h1⟩,⟨h2⟩,⟨h3⟩,⟨h4⟩,⟨h5⟩⟩
theorem as7 {p0 p1 p2 p3 p4 p5 p6:Prop} (h0:p0) (h1:p1) (h2:p2) (h3:p3) (h4:p4) (h5:p5) (h6:p6):Aside0 p0∧Aside0 p1∧Aside0 p2∧Aside0 p3∧Aside0 p4∧Aside0 p5∧Aside0 p6:=⟨⟨h0⟩,⟨h1⟩,⟨h2⟩,⟨h3⟩,⟨h4⟩,⟨h5⟩,⟨h6⟩⟩
theorem as8 {p0 p1 p2 p3 p4 p5 p6 p7:Prop} (h0:p0) (h1:p1) (h2:p2) (h3:p3) (h4:p4) (h5:p5) (h6:p6) (h7:p7):Aside0 p0∧Aside0 p1∧Aside0 p2∧Aside0 p3∧Aside0 p4∧Aside0 p5∧Aside0 p6∧Aside0 p7:=⟨⟨h0⟩,⟨h1⟩,⟨h2⟩,⟨h3⟩,⟨h4⟩,⟨h5⟩,⟨h6⟩,⟨h7⟩⟩
theorem as9 {p0 p1 p2 p3 p4 p5 p6 p7 p8:Prop} (h0:p0) (h1:p1) (h2:p2) (h3:p3) (h4:p4) (h5:p5) (h6:p6) (h7:p7) (h8:p8):Aside0 p0∧Aside0 p1∧Aside0 p2∧Aside0 p3∧Aside0 p4∧Aside0 p5∧Aside0 p6∧Aside0 p7∧Aside0 p8:=⟨⟨h0⟩,⟨h1⟩,⟨h2⟩,⟨h3⟩,⟨h4⟩,⟨h5⟩,⟨h6⟩,⟨h7⟩,⟨h8⟩⟩
theorem as10 {p0 p1 p2 p3 p4 p5 p6 p7 p8 p9:Prop} (h0:p0) (h1:p1) (h2:p2) (h3:p3) (h4:p4) (h5:p5) (h6:p6) (h7:p7) (h8:p8) (h9:p9):Aside0 p0∧Aside0 p1∧Aside0 p2∧Aside0 p3∧Aside0 p4∧Aside0 p5∧Aside0 p6∧Aside0 p7∧Aside0 p8∧Aside0 p9:=⟨⟨h0⟩,⟨h1⟩,⟨h2⟩,⟨h3⟩,⟨h4⟩,⟨h5⟩,⟨h6⟩,⟨h7⟩,⟨h8⟩,⟨h9⟩⟩
theorem as11 {p0 p1 p2 p3 p4 p5 p6 p7 p8 p9 p10:Prop} (h0:p0) (h1:p1) (h2:p2) (h3:p3) (h4:p4) (h5:p5) (h6:p6) (h7:p7) (h8:p8) (h9:p9) (h10:p10):Aside0 p0∧Aside0 p1∧Aside0 p2∧Aside0 p3∧Aside0 p4∧Aside0 p5∧Aside0 p6∧Aside0 p7∧Aside0 p8∧Aside0 p9∧Aside0 p10:=⟨⟨h0⟩,⟨h1⟩,⟨h2⟩,⟨h3⟩,⟨h4⟩,⟨h5⟩,⟨h6⟩,⟨h7⟩,⟨h8⟩,⟨h9⟩,⟨h10⟩⟩
theorem as12 {p0 p1 p2 p3 p4 p5 p6 p7 p8 p9 p10 p11:Prop} (h0:p0) (h1:p1) (h2:p2) (h3:p3) (h4:p4) (h5:p5) (h6:p6) (h7:p7) (h8:p8) (h9:p9) (h10:p10) (h11:p11):Aside0 p0∧Aside0 p1∧Aside0 p2∧Aside0 p3∧Aside0 p4∧Aside0 p5∧Aside0 p6∧Aside0 p7∧Aside0 p8∧Aside0 p9∧Aside0 p10∧Aside0 p11:=⟨⟨h0⟩,⟨h1⟩,⟨h2⟩,⟨h3⟩,⟨h4⟩,⟨h5⟩,⟨h6⟩,⟨h7⟩,⟨h8⟩,⟨h9⟩,⟨h10⟩,⟨h11⟩⟩
theorem as13 {p0 p1 p2 p3 p4 p5 p6 p7 p8 p9 p10 p11 p12:Prop} (h0:p0) (h1:p1) (h2:p2) (h3:p3) (h4:p4) (h5:p5) (h6:p6) (h7:p7) (h8:p8) (h9:p9) (h10:p10) (h11:p11) (h12:p12):Aside0 p0∧Aside0 p1∧Aside0 p2∧Aside0 p3∧Aside0 p4∧Aside0 p5∧Aside0 p6∧Aside0 p7∧Aside0 p8∧Aside0 p9∧Aside0 p10∧Aside0 p11∧Aside0 p12:=⟨⟨h0⟩,⟨h1⟩,⟨h2⟩,⟨h3⟩,⟨h4⟩,⟨h5⟩,⟨h6⟩,⟨h7⟩,⟨h8⟩,⟨h9⟩,⟨h10⟩,⟨h11⟩,⟨h12⟩⟩
theorem as14 {p0 p1 p2 p3 p4 p5 p6 p7 p8 p9 p10 p11 p12 p13:Prop} (h0:p0) (h1:p1) (h2:p2) (h3:p3) (h4:p4) (h5:p5) (h6:p6) (h7:p7) (h8:p8) (h9:p9) (h10:p10) (h11:p11) (h12:p12) (h13:p13):Aside0 p0∧Aside0 p1∧Aside0 p2∧Aside0 p3∧Aside0 p4∧Aside0 p5∧Aside0 p6∧Aside0 p7∧Aside0 p8∧Aside0 p9∧Aside0 p10∧Aside0 p11∧Aside0 p12∧Aside0 p13:=⟨⟨h0⟩,⟨h1⟩,⟨h2⟩,⟨h3⟩,⟨h4⟩,⟨h5⟩,⟨h6⟩,⟨h7⟩,⟨h8⟩,⟨h9⟩,⟨h10⟩,⟨h11⟩,⟨h12⟩,⟨h13⟩⟩
end Go.Proofs.YtlhniagacegbeaaDoorW.PrintWords
