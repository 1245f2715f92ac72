/- Flat terms: places of a term in order; what a beginning of places is a term; substitution by flatMap. Plain Lean, no program. -/
namespace Go.Proofs.YtlhniagacegbeaaDoor.Cat
set_option linter.unusedVariables false
set_option linter.unusedSimpArgs false
structure Cell where
 f0:Int
 f1:Int
 f2:ByteArray
structure Goal where
 f0:Int
 f1:List Cell
 f2:List Cell
 f3:List Cell
structure Clause where
 f0:List Cell
 f1:List Goal
structure Place where
 f0:ByteArray
 f1:Int
 f2:Int
structure Prog where
 f0:List Clause
 f1:List Place
theorem Cell.ext' {a b:Cell} (h0:a.f0=b.f0) (h1:a.f1=b.f1) (h2:a.f2=b.f2):a=b:=by
 cases a;cases b;simp_all
theorem ba_ext {a b:ByteArray} (h:a.data.toList=b.data.toList):a=b:=by
 cases a;cases b
 congr 1
 exact Array.toList_inj.1 h
instance:DecidableEq Cell:=fun a b=>
 if h0:a.f0=b.f0 then
  if h1:a.f1=b.f1 then
   if h2:a.f2.data.toList=b.f2.data.toList then isTrue (Cell.ext' h0 h1 (ba_ext h2))
   else isFalse (fun h=>h2 (by rw [h]))
  else isFalse (fun h=>h1 (by rw [h]))
 else isFalse (fun h=>h0 (by rw [h]))
def ar (c:Cell):Nat:=if c.f0=3 then c.f1.toNat else 0
def skip:Nat→List Cell→Option (List Cell)
 | 0,l=>some l
 | _+1,[]=>none
 | n+1,c :: l=>skip (n+ar c) l
theorem skip_zero (l:List Cell):skip 0 l=some l:=by cases l <;> rfl
theorem skip_nil (n:Nat):skip (n+1) []=none:=rfl
theorem skip_cons (n:Nat) (c:Cell) (l:List Cell):skip (n+1) (c :: l)=skip (n+ar c) l:=rfl
theorem skip_append (l:List Cell):∀ (n:Nat) (r m:List Cell),skip n l=some r→skip n (l++m)=some (r++m):=by
 induction l with
 | nil=>
  intro n r m h
  cases n with
  | zero=>rw [skip_zero] at h;obtain rfl:=Option.some.inj h;rw [skip_zero]
  | succ n=>cases h
 | cons c l ih=>
  intro n r m h
  cases n with
  | zero=>rw [skip_zero] at h;obtain rfl:=Option.some.inj h;rw [skip_zero]
  | succ n=>rw [skip_cons] at h;rw [List.cons_append,skip_cons];exact ih _ _ _ h
theorem skip_add (l:List Cell):∀ (a b:Nat),skip (a+b) l=(skip a l).bind (skip b):=by
 induction l with
 | nil=>
  intro a b
  cases a with
  | zero=>rw [skip_zero,Nat.zero_add];rfl
  | succ a=>rw [show a+1+b=(a+b)+1 by omega,skip_nil,skip_nil];rfl
 | cons c l ih=>
  intro a b
  cases a with
  | zero=>rw [skip_zero,Nat.zero_add];rfl
  | succ a=>rw [show a+1+b=(a+b)+1 by omega,skip_cons,skip_cons,show a+b+ar c=(a+ar c)+b by omega];exact ih _ _
theorem skip_split (l:List Cell):∀ (n:Nat) (r:List Cell),skip n l=some r→∃ p,l=p++r∧skip n p=some []:=by
 induction l with
 | nil=>
  intro n r h
  cases n with
  | zero=>rw [skip_zero] at h;obtain rfl:=Option.some.inj h;exact ⟨[],rfl,skip_zero _⟩
  | succ n=>cases h
 | cons c l ih=>
  intro n r h
  cases n with
  | zero=>rw [skip_zero] at h;obtain rfl:=Option.some.inj h;exact ⟨[],rfl,skip_zero _⟩
  | succ n=>
   rw [skip_cons] at h
   obtain ⟨p,hp,hs⟩:=ih _ _ h
   exact ⟨c :: p,by rw [hp];rfl,by rw [skip_cons];exact hs⟩
def Forest (n:Nat) (l:List Cell):Prop:=skip n l=some []
theorem Forest.skip_app {n:Nat} {l:List Cell} (h:Forest n l) (m:List Cell):skip n (l++m)=some m:=by
 have:=skip_append l n [] m h
 simpa using this
theorem Forest.app {a b:Nat} {u v:List Cell} (hu:Forest a u) (hv:Forest b v):Forest (a+b) (u++v):=by
 unfold Forest
 rw [skip_add,hu.skip_app]
 exact hv
theorem Forest.nil:Forest 0 []:=rfl
theorem Forest.zero {l:List Cell} (h:Forest 0 l):l=[]:=by
 unfold Forest at h;rw [skip_zero] at h;exact Option.some.inj h
theorem Forest.cons_iff {n:Nat} {c:Cell} {l:List Cell}:Forest (n+1) (c :: l)↔Forest (n+ar c) l:=Iff.rfl
theorem Forest.add {a b:Nat} {l:List Cell} (h:Forest (a+b) l):∃ u v,l=u++v∧Forest a u∧Forest b v:=by
 unfold Forest at h
 rw [skip_add] at h
 obtain ⟨r,hr,hb⟩:=Option.bind_eq_some_iff.1 h
 obtain ⟨p,hp,hs⟩:=skip_split _ _ _ hr
 exact ⟨p,r,hp,hs,hb⟩
theorem Forest.succ {n:Nat} {l:List Cell} (h:Forest (n+1) l):∃ u v,l=u++v∧Forest 1 u∧Forest n v:=by
 rw [Nat.add_comm] at h
 exact h.add
theorem Forest.len {l:List Cell}:∀ {n:Nat},Forest n l→n≤l.length:=by
 induction l with
 | nil=>intro n h;cases n with
  | zero=>exact Nat.le_refl _
  | succ n=>cases h
 | cons c l ih=>intro n h;cases n with
  | zero=>exact Nat.zero_le _
  | succ n=>
   have:=ih (Forest.cons_iff.1 h)
   simp only [List.length_cons];omega
theorem Forest.one {l:List Cell} (h:Forest 1 l):∃ c r,l=c :: r∧Forest (ar c) r:=by
 cases l with
 | nil=>cases h
 | cons c r=>exact ⟨c,r,rfl,by rw [Forest.cons_iff] at h;simpa using h⟩
def cut:Nat→List Cell→List (List Cell)
 | 0,_=>[]
 | n+1,l=>match skip 1 l with
  | none=>[]
  | some r=>l.take (l.length - r.length) :: cut n r
theorem cut_zero (l:List Cell):cut 0 l=[]:=rfl
theorem cut_app {n:Nat} {u v:List Cell} (hu:Forest 1 u):cut (n+1) (u++v)=u :: cut n v:=by
 have e:cut (n+1) (u++v)=match skip 1 (u++v) with
  | none=>[]
  | some r=>(u++v).take ((u++v).length - r.length) :: cut n r:=rfl
 rw [e,hu.skip_app]
 simp
theorem cut_spec {n:Nat}:∀ {l:List Cell},Forest n l→(cut n l).flatten=l∧(cut n l).length=n∧∀ x ∈ cut n l,Forest 1 x:=by
 induction n with
 | zero=>intro l h;rw [h.zero];simp [cut_zero]
 | succ n ih=>
  intro l h
  obtain ⟨u,v,rfl,hu,hv⟩:=h.succ
  rw [cut_app hu]
  obtain ⟨h1,h2,h3⟩:=ih hv
  refine ⟨by simp [h1],by simp [h2],?_⟩
  intro x hx
  rcases List.mem_cons.1 hx with rfl|hx
  ·exact hu
  ·exact h3 x hx
theorem Forest.flatten {ls:List (List Cell)} (h:∀ x ∈ ls,Forest 1 x):Forest ls.length ls.flatten:=by
 induction ls with
 | nil=>exact Forest.nil
 | cons x ls ih=>
  have h1:=h x (by simp)
  have h2:=ih (fun y hy=>h y (by simp [hy]))
  rw [List.flatten_cons,List.length_cons,Nat.add_comm]
  exact h1.app h2
def app (θ:Int→List Cell) (l:List Cell):List Cell:=l.flatMap fun c=>if c.f0=1 then θ c.f1 else [c]
end Go.Proofs.YtlhniagacegbeaaDoor.Cat
