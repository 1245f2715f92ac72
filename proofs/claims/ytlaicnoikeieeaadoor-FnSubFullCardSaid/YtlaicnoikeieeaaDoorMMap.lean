/- A map of the call's own, keyed by numbers of 0 to 99999, told by what it holds: over the kit's laws on a map's block. Conditions: each theorem's own. -/
import Derived.Test.YtlaicnoikeieeaaDoorProg
import Derived.Test.YtlaicnoikeieeaaDoorMDfs
import Derived.Maps.Own
import Derived.Maps.OwnOps
import Derived.Below
import Derived.WalkKit
namespace Go.Proofs.YtlaicnoikeieeaaDoor.Mp
open Go Go.Maps Go.MapKept Go.ChangeMaps Go.ChangeShapes Go.WideShapes Go.RowKit
open Go.Proofs.YtlaicnoikeieeaaDoor.Cat (upd upd_same upd_ne)
open Go.WideElems (Fit rd rg pl rd_key rd_val rg_of rd_mk)
set_option linter.unusedVariables false
set_option linter.unusedSimpArgs false

/-- an element as it stands -/
def rawR (v:Value):Option (DataW Value × List MemPlace):=some (.held v,[])

/-- block b is a map, keyed by numbers of 0 to 99999, that holds f -/
def MapIs (P:Program) (k:TypeId) (w:World) (b:Nat) (f:Int→Option Value):Prop:=
 ∃ es clock,w.heap[b]?=some (.map es clock)∧Fit P k rawR es clock∧(∀ x ∈ es.toList,∃ z,x.key = .int .i64 z∧0≤z∧z≤99999∧f z=some x.val)∧∀ z v,f z=some v→∃ x ∈ es.toList,x.key = .int .i64 z∧x.val=v

theorem MapIs.lt {P:Program} {k:TypeId} {w:World} {b:Nat} {f:Int→Option Value} (h:MapIs P k w b f):b<w.heap.size:=by
 obtain ⟨es,clock,hb,_⟩:=h
 exact (Array.getElem?_eq_some_iff.1 hb).1
theorem MapIs.same {P:Program} {k:TypeId} {w w':World} {b:Nat} {f:Int→Option Value} (h:MapIs P k w b f) (hb:w'.heap[b]?=w.heap[b]?):MapIs P k w' b f:=by
 obtain ⟨es,clock,h1,h2⟩:=h
 exact ⟨es,clock,hb.trans h1,h2⟩
theorem MapIs.below {P:Program} {k:TypeId} {w w':World} {b n:Nat} {f:Int→Option Value} (h:MapIs P k w b f) (hb:Below n w w') (hn:b<n):MapIs P k w' b f:=h.same (hb.block b hn)
theorem MapIs.step {P:Program} {k:TypeId} {w w':World} {b:Nat} {f:Int→Option Value} (h:MapIs P k w b f) (hb:Below w.heap.size w w'):MapIs P k w' b f:=h.same (hb.block b h.lt)
theorem MapIs.made (P:Program) (k:TypeId) (w:World):MapIs P k (w.alloc (.map #[] 0)) w.heap.size (fun _=>none):=
 ⟨#[],0,(MapKept.heap_alloc w _).1,⟨by simp,stamped_empty 0,by simp⟩,(by intro x hx;simp at hx),(by intro z v h;cases h)⟩

theorem pigeon:∀ (n:Nat) (l:List Nat),l.Nodup→(∀ x ∈ l,x<n)→l.length≤n
 | 0,l,_,h=>by
  cases l with
  | nil=>exact Nat.le_refl _
  | cons x l=>exact absurd (h x (by simp)) (Nat.not_lt_zero _)
 | n+1,l,hn,h=>by
  have h1:(l.erase n).length≤n:=pigeon n (l.erase n) (hn.erase n) (fun x hx=>by
   have:=(hn.mem_erase_iff).1 hx
   have:=h x this.2
   omega)
  have h2:=List.length_erase (a:=n) (l:=l)
  split at h2 <;> omega

variable {P : Program} {k e t : TypeId} {w : World} {b : Nat} {f : Int → Option Value}

theorem wf_key {z:Int} (h0:0≤z) (h1:z≤99999):(Lit.int .i64 z).wf=true:=WalkArith.wf_i64 (by omega)

theorem size_le {es:Array MapEntry} {clock:Nat} (F:Fit P k rawR es clock) (hk:∀ x ∈ es.toList,∃ z,x.key = .int .i64 z∧0≤z∧z≤99999∧f z=some x.val):es.size≤100000:=by
 have hn:es.toList.Pairwise (fun x y=>x.key≠y.key):=((stamped_iff es clock).1 F.stamped).2.2
 have hl:(es.toList.map fun x=>match x.key with|.int _ z=>z.toNat|_=>0).length≤100000:=by
  refine pigeon 100000 _ ?_ ?_
  ·rw [List.Nodup,List.pairwise_map]
   have:es.toList.Pairwise (fun x y=>x ∈ es.toList∧y ∈ es.toList∧x.key≠y.key):=by
    refine List.Pairwise.imp_of_mem ?_ hn
    intro a b ha hb h
    exact ⟨ha,hb,h⟩
   refine this.imp ?_
   rintro x y ⟨hx,hy,hne⟩ e
   obtain ⟨z,h1,h2,_⟩:=hk x hx
   obtain ⟨z',h1',h2',_⟩:=hk y hy
   rw [h1,h1'] at e
   simp only at e
   exact hne (by rw [h1,h1',show z=z' by omega])
  ·intro m hm
   obtain ⟨x,hx,rfl⟩:=List.mem_map.1 hm
   obtain ⟨z,h1,h2,h3,_⟩:=hk x hx
   rw [h1]
   simp only
   omega
 simpa using hl

/-- 'm[k]', with and without 'ok' -/
theorem MapIs.lookup (h:MapIs P k w b f) (hk:P.underlying k=some (.int .i64)) (ht:P.underlying t=some (.map k e)) {zv:Value} (hz:(zeroValue e).run P w = .ok zv w) {z:Int} (h0:(Lit.int .i64 z).wf=true) (c:Bool) :
  (Instr.lookup t (.map (some b)) (.int .i64 z) c).run P w = .ok (if c then .tuple #[(f z).getD zv,.bool (f z).isSome] else (f z).getD zv) w:=by
 obtain ⟨es,clock,hb,F,hm,hm'⟩:=h
 rcases Maps.fit_look c (int_keyed hk) ht hz hb F (keyOf_int_mk hk h0) with ⟨hrun,hno,_⟩|⟨e0,y,hin,hkey,hrun,_⟩
 ·have hf:f z=none:=by
   cases hf:f z with
   | none=>rfl
   | some v=>
    obtain ⟨x,hx,hxk,_⟩:=hm' z v hf
    exact absurd hxk (hno x hx)
  rw [hrun,hf];rfl
 ·obtain ⟨z',hz',_,_,hfz⟩:=hm e0 hin
  rw [hkey] at hz'
  cases hz'
  rw [hrun,hfz];rfl

/-- 'm[k] = v' -/
theorem MapIs.update (h:MapIs P k w b f) (hk:P.underlying k=some (.int .i64)) (ht:P.underlying t=some (.map k e)) {z:Int} (h0:0≤z) (h1:z≤99999) (v:Value) :
  ∃ w',(Instr.mapUpdate t (.map (some b)) (.int .i64 z) v).run P w = .ok () w'∧MapIs P k w' b (upd f z (some v))∧w.grownBy w' (some b):=by
 obtain ⟨es,clock,hb,F,hm,hm'⟩:=h
 have hsz:=size_le F hm
 have hkey:=keyOf_int_mk (P:=P) hk (wf_key h0 h1)
 obtain ⟨es',clock',hrun,F',hput,_,_,hold⟩:=Maps.fit_store (R':=rawR) (yv:=(.held v,[])) (int_keyed hk) ht hb F (by unfold maxLen;omega) (fun _ _ _ _ hz=>hz) hkey (show rawR v=some _ from rfl)
 have hrg:∀ {es:Array MapEntry} {clock:Nat},Fit P k rawR es clock→∀ {x:MapEntry} {z:Int},x ∈ es.toList→x.key = .int .i64 z→(Lit.int .i64 z).wf=true→rg P k rawR x=(.int .i64 z,.held x.val):=fun {es clock} F {x z} hx hxk hw=>by
  obtain ⟨y,hy⟩:=F.reads x hx
  have m1:=rd_key hy
  rw [hxk,keyOf_int_mk hk hw] at m1
  obtain ⟨zv,hzv,hd⟩:=rd_val hy
  rw [rg_of hy]
  refine Prod.ext (Option.some.inj m1).symm ?_
  have:zv=(.held x.val,[]):=(Option.some.inj hzv).symm
  rw [hd,this]
 refine ⟨_,hrun,⟨es',clock',heap_setBlock_same hb _,F',?_,?_⟩,⟨rfl,rfl,rfl,by simp [setBlock],fun i _ hi=>heap_setBlock_other hb _ (fun e=>hi (by rw [e]))⟩⟩
 ·intro x hx
  rcases hold x hx with ⟨hx0,hne⟩|⟨hxk,hxv⟩
  ·obtain ⟨z',q1,q2,q3,q4⟩:=hm x hx0
   refine ⟨z',q1,q2,q3,?_⟩
   rw [upd_ne f _ (fun e=>hne (by rw [q1,e]))]
   exact q4
  ·exact ⟨z,hxk,h0,h1,by rw [upd_same,hxv]⟩
 ·intro z' v' hf
  have key:∀ p:Lit × DataW Value,p ∈ putKey (.int .i64 z) (.held v) ((es.toList.map (rg P k rawR)).foldr DataW.insert [])→∃ x ∈ es'.toList,rg P k rawR x=p:=fun p hp=>by
   have hp':p ∈ (es'.toList.map (rg P k rawR)).foldr DataW.insert []:=by rw [hput];exact hp
   rw [(sorted_perm _).mem_iff] at hp'
   exact List.mem_map.1 hp'
  have back:∀ {z':Int} {v':Value},(Lit.int .i64 z').wf=true→((Lit.int .i64 z',DataW.held v') ∈ putKey (.int .i64 z) (.held v) ((es.toList.map (rg P k rawR)).foldr DataW.insert []))→∃ x ∈ es'.toList,x.key = .int .i64 z'∧x.val=v':=fun {z' v'} hw hp=>by
   obtain ⟨x,hx,e⟩:=key _ hp
   obtain ⟨zx,hkx,hw2⟩:∃ zx,x.key = .int .i64 zx∧(Lit.int .i64 zx).wf=true:=by
    rcases hold x hx with ⟨hx0,_⟩|⟨hxk,_⟩
    ·obtain ⟨zx,q1,q2,q3,_⟩:=hm x hx0
     exact ⟨zx,q1,wf_key q2 q3⟩
    ·exact ⟨z,hxk,wf_key h0 h1⟩
   rw [hrg F' hx hkx hw2] at e
   injection e with e1 e2
   injection e1 with _ e1
   injection e2 with e2
   exact ⟨x,hx,by rw [hkx,e1],e2⟩
  by_cases e:z'=z
  ·subst e
   rw [upd_same] at hf
   refine back (wf_key h0 h1) ?_
   rw [← Option.some.inj hf]
   unfold putKey
   exact mem_insert_iff.2 (.inl rfl)
  ·rw [upd_ne f _ e] at hf
   obtain ⟨x,hx,hxk,hxv⟩:=hm' z' v' hf
   obtain ⟨z2,q1,q2,q3,_⟩:=hm x hx
   rw [hxk] at q1
   cases q1
   refine back (wf_key q2 q3) ?_
   unfold putKey
   refine mem_insert_iff.2 (.inr (List.mem_filter.2 ⟨(sorted_perm _).mem_iff.2 (List.mem_map.2 ⟨x,hx,?_⟩),?_⟩))
   ·rw [hrg F hx hxk (wf_key q2 q3),hxv]
   ·refine (Maps.notKey_iff ((int_keyed hk).key hkey)).2 ?_
    intro e2
    injection e2 with _ e2
    exact e e2

theorem wpList_lookup_is {ops:Array Oper} {rest:List Oper} {o:Oper} {a:Act} {Q:Exit→Act→World→Prop}
  (hg:o.guard=none) (m x:Operand) (t:TypeId) (c:Bool) (hop:o.op=Op.lookup t m x c)
  (k e:TypeId) (hk:P.underlying k=some (.int .i64)) (ht:P.underlying t=some (.map k e)) (zv:Value) (hz:(zeroValue e).run P w = .ok zv w) (b:Nat) (f:Int→Option Value)
  (hm:a.eval m = .map (some b)) (h:MapIs P k w b f) (z:Int) (hx:a.eval x = .int .i64 z) (h0:(Lit.int .i64 z).wf=true)
  (hK:wpList P ops Q rest (a.put o.dst (if c then .tuple #[(f z).getD zv,.bool (f z).isSome] else (f z).getD zv)) w) :
  wpList P ops Q (o :: rest) a w:=by
 refine wpList_plain hg fun K' hK'=>?_
 have hrun:=h.lookup hk ht hz h0 c
 unfold Oper.wp
 simp [execOp,hop,hm,hx,hrun,Result.andThen]
 refine hK' _ _ ?_
 cases c <;> simpa using hK

theorem wpList_mapUpdate_is {ops:Array Oper} {rest:List Oper} {o:Oper} {a:Act} {Q:Exit→Act→World→Prop}
  (hg:o.guard=none) (m x v:Operand) (t:TypeId) (hop:o.op=Op.mapUpdate t m x v)
  (k e:TypeId) (hk:P.underlying k=some (.int .i64)) (ht:P.underlying t=some (.map k e)) (b:Nat) (f:Int→Option Value)
  (hm:a.eval m = .map (some b)) (h:MapIs P k w b f) (z:Int) (hx:a.eval x = .int .i64 z) (h0:0≤z) (h1:z≤99999) (val:Value) (hv:a.eval v=val)
  (hK:∀ w',MapIs P k w' b (upd f z (some val))→w.grownBy w' (some b)→wpList P ops Q rest (a.put o.dst undef) w') :
  wpList P ops Q (o :: rest) a w:=by
 refine wpList_plain hg fun K' hK'=>?_
 obtain ⟨w',hrun,r1,r2⟩:=h.update hk ht h0 h1 val
 unfold Oper.wp
 simp [execOp,hop,hm,hx,hv,hrun,Result.andThen]
 exact hK' _ _ (hK w' r1 r2)

end Go.Proofs.YtlaicnoikeieeaaDoor.Mp
