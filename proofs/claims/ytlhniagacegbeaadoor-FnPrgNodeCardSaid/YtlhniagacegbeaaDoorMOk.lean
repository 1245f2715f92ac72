/- What places, goals, clauses, programs may be. Plain Lean, no program. -/
import Derived.Test.YtlhniagacegbeaaDoorMTerm
namespace Go.Proofs.YtlhniagacegbeaaDoor.Cat
set_option linter.unusedVariables false
set_option linter.unusedSimpArgs false
def nameOkL (l:List UInt8):Bool:=decide (1≤l.length∧l.length≤8) && l.all (fun b=>decide (97≤b.toNat∧b.toNat≤122)) && !(l == [97,110,100])
def nameOk (s:ByteArray):Bool:=nameOkL s.data.toList
def cellOk (c:Cell):Bool:=
 if c.f0=1 then decide (0≤c.f1∧c.f1≤99999) && c.f2.data.toList.isEmpty
 else if c.f0=2 then decide (-9999≤c.f1∧c.f1≤9999) && c.f2.data.toList.isEmpty
 else if c.f0=3 then decide (0≤c.f1∧c.f1≤3) && nameOk c.f2
 else false
def isTerm (l:List Cell):Bool:=decide (1≤l.length∧l.length≤40) && (l.all cellOk && decide (skip 1 l=some []))
def sizeOf (l:List Cell):Nat:=match skip 1 l with
 | some s=>l.length - s.length
 | none=>l.length+1
def belowB (v:Int) (l:List Cell):Bool:=!(l.any fun c=>decide (c.f0=1) && decide (v≤c.f1))
def inCl (l:List Cell):Bool:=decide (l.length≤12) && belowB 8 l
def isFun:List Cell→Bool
 | c :: _=>decide (c.f0=3)
 | []=>false
def called (l:List Cell):Bool:=isTerm l && isFun l
def goalOk (g:Goal):Bool:=
 if g.f0=1 then called g.f1 && inCl g.f1 && (g.f2.isEmpty && g.f3.isEmpty)
 else if g.f0=2∨g.f0=4 then isTerm g.f1 && inCl g.f1 && (isTerm g.f2 && inCl g.f2 && g.f3.isEmpty)
 else if g.f0=5 then isTerm g.f1 && inCl g.f1 && (isTerm g.f2 && inCl g.f2 && (isTerm g.f3 && inCl g.f3))
 else if g.f0=3 then g.f1.isEmpty && (g.f2.isEmpty && g.f3.isEmpty)
 else false
def clauseOk (c:Clause):Bool:=called c.f0 && (inCl c.f0 && (decide (c.f1.length≤4) && c.f1.all goalOk))
def placeOk (p:Place):Bool:=nameOk p.f0 && (decide (0≤p.f1∧p.f1≤3) && decide (1≤p.f2∧p.f2≤2))
def samePlace (p q:Place):Bool:=decide (p.f0.data.toList=q.f0.data.toList) && decide (p.f1=q.f1)
def newPlaces:List Place→List Place→Bool
 | _,[]=>true
 | a,p :: r=>placeOk p && (!(a.any (samePlace p)) && newPlaces (a++[p]) r)
def progOk (p:Prog):Bool:=decide (p.f0.length≤12) && (decide (p.f1.length≤6) && (p.f0.all clauseOk && newPlaces [] p.f1))
def okl (l:List Cell):Prop:=∀ c ∈ l,cellOk c=true
theorem okl_nil:okl []:=by intro c h;cases h
theorem okl_cons {c:Cell} {l:List Cell}:okl (c :: l)↔cellOk c=true∧okl l:=by simp [okl]
theorem okl_append {a b:List Cell}:okl (a++b)↔okl a∧okl b:=by
 simp only [okl,List.mem_append]
 exact ⟨fun h=>⟨fun c hc=>h c (.inl hc),fun c hc=>h c (.inr hc)⟩,fun h c hc=>hc.elim (h.1 c) (h.2 c)⟩
end Go.Proofs.YtlhniagacegbeaaDoor.Cat
