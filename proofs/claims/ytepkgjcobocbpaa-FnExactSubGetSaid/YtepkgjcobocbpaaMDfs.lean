/- Ways through bindings, gone depth first: whether a variable leads to itself, and whether a term leads to a variable. Plain Lean, no program. -/
import Derived.Test.YtepkgjcobocbpaaMSub
namespace Go.Proofs.Ytepkgjcobocbpaa.Cat
set_option linter.unusedVariables false
set_option linter.unusedSimpArgs false

instance:DecidableEq Bind:=fun a b=>
 if h:a.f0=b.f0∧a.f1=b.f1 then isTrue (by cases a;cases b;simp only at h;obtain ⟨rfl,rfl⟩:=h;rfl) else isFalse (fun e=>h (by rw [e];exact ⟨rfl,rfl⟩))

inductive Path (kn:Int→List Cell):Int→Int→Prop
 | one {x y:Int}:y ∈ frees (kn x)→Path kn x y
 | step {x y z:Int}:y ∈ frees (kn x)→Path kn y z→Path kn x z
theorem Path.snoc {kn:Int→List Cell} {x y z:Int} (h:Path kn x y) (hz:z ∈ frees (kn y)):Path kn x z:=by
 induction h with
 | one h=>exact .step h (.one hz)
 | step h _ ih=>exact .step h (ih hz)

/-- what is done leads only to what is done, and lower -/
def DoneSet (kn:Int→List Cell) (v:Int→Int):Prop:=∃ rk:Int→Nat,∀ x,v x=2→∀ y ∈ frees (kn x),v y=2∧rk y<rk x

def Behind (kn:Int→List Cell) (v v':Int→Int):Prop:=DoneSet kn v'∧(∀ x,v' x=1↔v x=1)∧∀ x,v x=2→v' x=2

/-! ### it ends -/
def More (v v':Int→Int):Prop:=∀ x,v x=1∨v x=2→v' x=1∨v' x=2
theorem More.refl (v:Int→Int):More v v:=fun _ h=>h
theorem More.trans {a b c:Int→Int} (h:More a b) (k:More b c):More a c:=fun x hx=>k x (h x hx)
/-! ### of bindings -/
def known (s:List Bind) (v:Int):List Cell:=(get s v).getD []
/-! ### all that can be come to -/
theorem Reach.snoc {s:List Bind} {l:List Cell} {x y:Int} (h:Reach s l x) (hy:y ∈ frees (known s x)):Reach s l y:=by
 induction h with
 | @here l c h1 h2=>
  cases e:get s c.f1 with
  | none=>unfold known at hy;rw [e] at hy;cases hy
  | some t=>
   unfold known at hy
   rw [e] at hy
   obtain ⟨d,hd,hv,rfl⟩:=mem_frees.1 hy
   exact .step h1 h2 e (.here hd hv)
 | step h1 h2 h3 _ ih=>exact .step h1 h2 h3 (ih hy)
/-! ### whether a term leads to a variable -/
/-- all that was seen since leads only to what was seen, and not to v -/
def ClosedTo (g:Int→Option (List Cell)) (v:Int) (sn sn':Int→Bool):Prop:=(∀ x,sn x=true→sn' x=true)∧∀ x,sn' x=true→sn x=false→∀ t,g x=some t→∀ y ∈ frees t,y≠v∧sn' y=true
theorem ClosedTo.trans {g:Int→Option (List Cell)} {v:Int} {a b c:Int→Bool} (h:ClosedTo g v a b) (k:ClosedTo g v b c):ClosedTo g v a c:=
 ⟨fun x hx=>k.1 x (h.1 x hx),fun x hx ha t ht y hy=>by
  by_cases hb:b x=true
  ·obtain ⟨q1,q2⟩:=h.2 x hb ha t ht y hy
   exact ⟨q1,k.1 y q2⟩
  ·exact k.2 x hx (by simpa using hb) t ht y hy⟩

end Go.Proofs.Ytepkgjcobocbpaa.Cat
