/- Rows of rows whose elements lie apart: the elements, each with its own blocks. -/
import Derived.Test.YtlhniagacegbeaaGreatDoorV0
import Derived.WalkKit
namespace Go.Proofs.YtlhniagacegbeaaGreatDoorW.PrintWords
set_option linter.unusedVariables false
set_option linter.unusedSimpArgs false
open Go.RowKit
namespace Kd
theorem S_rows {α:Type} {d:Kd α} {e e' base:Nat} {w:World} {ok:Nat→Prop} {v:Value} {xs:List (List α)} (h:S (Kd.slice e d) e' w base ok v xs) :
  ∃ (f:Nat→Nat) (inner:List Value),w.ownsRow base e' 1 v xs.length inner∧∀ j x,xs[j]?=some x→∃ u,inner[j]?=some u∧d.R e w base (fun k=>f k=j∧some k≠v.ownBlock) u x:=by
 obtain ⟨f,h0,inner,ho,hr⟩:=h
 rw [List.length_zipIdx] at ho
 refine ⟨f,inner,ho,fun j x hj=>?_⟩
 obtain ⟨u,hc,hR⟩:=hr.2 j (x,j) (zip_at hj)
 refine ⟨u,?_,R_mono hR (fun k hk=>⟨hk.2,hk.1.2⟩)⟩
 have hc':(inner.drop (j * 1)).take 1=[u]:=hc
 rw [Nat.mul_one] at hc'
 have e1:inner[j]?=(List.take 1 (inner.drop j))[0]?:=by simp
 rw [e1,hc'];rfl
theorem own_cells {w:World} {base e' n:Nat} {v:Value} {inner:List Value} (h:w.ownsRow base e' 1 v n inner) (hn:0<n) :
  ∃ g cap,v = .slice (some ⟨g,0,none⟩) n cap∧base≤g∧n≤cap∧(∀ j u,inner[j]?=some u→w.cell? ⟨g,j,none⟩=some u)∧∃ cells,w.heap[g]?=some (.cells cells e' (0,0)):=by
 rcases h.2 with ⟨_,h0⟩|⟨g,cap,cur,rfl,hg,hh,hle,hcap,hsz,ht⟩
 ·omega
 ·refine ⟨g,cap,rfl,hg,hle,fun j u hj=>?_,cur,hh⟩
  rw [← ht,Nat.mul_one] at hj
  have hj2:cur.toList[j]?=some u:=by
   by_cases hl:j<n
   ·rwa [List.getElem?_take_of_lt hl] at hj
   ·rw [List.getElem?_take_eq_none (by omega)] at hj;cases hj
  simp only [World.cell?,hh]
  simpa using hj2
/-- the rows are apart -/
theorem apart_rows {α:Type} {d:Kd α} {e base base':Nat} {w w':World} {f:Nat→Nat} {i j:Nat} {u v t:Value} {x y:List α} (hu:d.R e w base (fun k=>f k=i∧some k≠t.ownBlock) u x) (hv:d.R e w' base' (fun k=>f k=j∧some k≠t.ownBlock) v y) (hij:i≠j):∀ k,(f k=i∧some k≠t.ownBlock)→some k≠v.ownBlock:=by
 intro k hk hv2
 have:=hv.1 k hv2.symm
 exact hij (hk.1.symm.trans this.1)
end Kd
end Go.Proofs.YtlhniagacegbeaaGreatDoorW.PrintWords
