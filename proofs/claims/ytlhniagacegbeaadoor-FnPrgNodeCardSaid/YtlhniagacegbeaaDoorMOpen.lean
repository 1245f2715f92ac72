/- What can be read as data is of the print's kinds: for whole numbers, strings, slices, structs, one in another. -/
import Derived.Test.YtlhniagacegbeaaDoorV0
import Derived.Deep.Slices
import Derived.ChangeArms
import Derived.DataReads
namespace Go.Proofs.YtlhniagacegbeaaDoor.Opn
set_option linter.unusedVariables false
set_option linter.unusedSimpArgs false
open Go.RowKit Go.ChangeShapes Go.WideShapes Go.Proofs.YtlhniagacegbeaaDoorW.PrintWords
def Opens (P:Program) (t:TypeId) {α:Type} (d:Kd α) (ok:α→Prop):Prop:=
  ∀ (H:Type) (enc:TypeId × Value→H) (w:World) (base:Nat) (spare:Nat→Bool) (held:Bool) (fuel:Nat) (cs:List Value) (x:DataW H × List MemPlace),
    DataW.trod enc P w base spare held fuel t cs=some x→∃ v:α,d.K w v cs∧ok v
theorem opens_int {P:Program} {t:TypeId} {k:IntKind} (ht:P.underlying t=some (.int k)):Opens P t (Kd.int k) (fun n=>(Lit.int k n).wf=true):=by
  intro H enc w base spare held fuel cs x h
  obtain ⟨n,rfl,_,hw⟩:=DataW.trod_int ht h
  exact ⟨n,rfl,hw⟩
theorem opens_string {P:Program} {t:TypeId} (ht:P.underlying t=some .string):Opens P t Kd.string (fun s=>s.size≤maxLen):=by
  intro H enc w base spare held fuel cs x h
  obtain ⟨s,rfl,_,hw⟩:=DataW.trod_string ht h
  exact ⟨s,rfl,hw⟩
theorem opens_slice {P:Program} {t e e':TypeId} {α:Type} {d:Kd α} {ok:α→Prop} (ht:P.underlying t=some (.slice e)) (hc:P.cellsOf e=d.sz) (ho:Opens P e d ok) :
    Opens P t (Kd.slice e' d) (fun xs=>xs.length≤maxLen∧∀ x ∈ xs,ok x):=by
  intro H enc w base spare held fuel cs x h
  rcases Deep.open_slice ht h with ⟨rfl,_⟩|⟨a,len,cap,m,n,D,Pl,rfl,hb,hl,hm,hmm,rfl,hx⟩
  · exact ⟨[],⟨none,0,rfl,Nat.le_refl _,Kd.C_nil d w⟩,by simp,by simp⟩
  · have hlm:len≤m:=by rw [hmm];split <;> omega
    have key:∀ i,i<len→∃ v:α,ok v∧∃ c,c.length=d.sz∧d.K w v c∧∀ j u,c[j]?=some u→w.cell? (a.add (i * d.sz+j))=some u:=by
      intro i hi
      obtain ⟨c,h1,h2⟩:=hx i (by omega)
      obtain ⟨v,hv,hok⟩:=ho H enc w base spare held n c _ h2
      obtain ⟨_,h3,h4⟩:=World.cells?_some h1
      rw [hc] at h3 h4
      refine ⟨v,hok,c,h3,hv,fun j u hu=>?_⟩
      have hj:=(List.getElem?_eq_some_iff.1 hu).1
      rw [← Deep.add_add,h4 j (by omega),hu]
    have build:∀ k,k≤len→∃ xs:List α,xs.length=k∧(∀ x ∈ xs,ok x)∧∀ j p,xs[j]?=some p→∃ c,c.length=d.sz∧d.K w p c∧∀ i u,c[i]?=some u→w.cell? (a.add (j * d.sz+i))=some u:=by
      intro k
      induction k with
      | zero=>intro _;exact ⟨[],rfl,by simp,by simp⟩
      | succ k ih=>
        intro hk
        obtain ⟨xs,h1,h2,h3⟩:=ih (by omega)
        obtain ⟨v,hok,hv⟩:=key k (by omega)
        refine ⟨xs++[v],by simp [h1],?_,fun j p hj=>?_⟩
        · intro x hx
          rcases List.mem_append.1 hx with hx|hx
          · exact h2 x hx
          · rw [List.mem_singleton.1 hx];exact hok
        · by_cases hjl:j<xs.length
          · rw [List.getElem?_append_left hjl] at hj
            exact h3 j p hj
          · have hjk:j=k:=by
              have:=(List.getElem?_eq_some_iff.1 hj).1
              simp [h1] at this
              omega
            subst hjk
            have:v=p:=by simpa [← h1] using hj
            subst this
            exact hv
    obtain ⟨xs,h1,h2,h3⟩:=build len (Nat.le_refl _)
    subst h1
    refine ⟨xs,⟨some a,cap,rfl,hl,rfl,?_,fun _=>⟨a,rfl,h3⟩⟩,by omega,h2⟩
    unfold maxLen at hm
    omega
def OpensF (P:Program) (fs:List Field) (off:Nat) {α:Type} (d:Kd α) (ok:α→Prop):Prop:=
  ∀ (H:Type) (enc:TypeId × Value→H) (w:World) (base:Nat) (spare:Nat→Bool) (held:Bool) (fuel:Nat) (cs:List Value),
    (∀ f ∈ fs,∃ x,DataW.trod enc P w base spare held fuel f.type ((cs.drop f.offset).take (P.cellsOf f.type))=some x)→cs.length=off+d.sz→∃ v:α,d.K w v (cs.drop off)∧ok v
theorem opensF_one {P:Program} {f:Field} {off:Nat} {α:Type} {d:Kd α} {ok:α→Prop} (ho:f.offset=off) (hc:P.cellsOf f.type=d.sz) (h:Opens P f.type d ok):OpensF P [f] off d ok:=by
  intro H enc w base spare held fuel cs hf hl
  obtain ⟨x,hx⟩:=hf f (by simp)
  rw [ho,hc,List.take_of_length_le (by rw [List.length_drop];omega)] at hx
  exact h H enc w base spare held fuel _ x hx
theorem opensF_cons {P:Program} {f:Field} {fs:List Field} {off:Nat} {α β:Type} {d:Kd α} {d':Kd β} {ok:α→Prop} {ok':β→Prop} (ho:f.offset=off) (hc:P.cellsOf f.type=d.sz) (h:Opens P f.type d ok)
    (h':OpensF P fs (off+d.sz) d' ok'):OpensF P (f :: fs) off (Kd.pair d d') (fun v=>ok v.1∧ok' v.2):=by
  intro H enc w base spare held fuel cs hf hl
  obtain ⟨x,hx⟩:=hf f (by simp)
  rw [ho,hc] at hx
  obtain ⟨v,hv,hok⟩:=h H enc w base spare held fuel _ x hx
  obtain ⟨v',hv',hok'⟩:=h' H enc w base spare held fuel cs (fun g hg=>hf g (by simp [hg])) (by rw [hl];show off+(d.sz+d'.sz)=_;omega)
  refine ⟨(v,v'),⟨(cs.drop off).take d.sz,cs.drop (off+d.sz),?_,hv,hv'⟩,hok,hok'⟩
  rw [← List.drop_drop,List.take_append_drop]
theorem opens_struct {P:Program} {t:TypeId} {fs:Array Field} {α β:Type} {d:Kd α} {ok:α→Prop} {f:β→α} (g:α→β) (hg:∀ v,f (g v)=v) (ht:P.underlying t=some (.struct fs)) (hc:P.cellsOf t=d.sz)
    (h:OpensF P fs.toList 0 d ok):Opens P t (Kd.iso d f) (fun v=>ok (f v)):=by
  intro H enc w base spare held fuel cs x hx
  obtain ⟨xs,n,rfl,_,hl,hlen,hf⟩:=DataW.trod_struct ht hx
  obtain ⟨v,hv,hok⟩:=h H enc w base spare held n cs (fun e he=>by
    obtain ⟨i,hi,rfl⟩:=List.getElem_of_mem he
    have hi':i<fs.size:=by simpa using hi
    have h1:fs[i]?=some (fs.toList[i]):=by simp [hi']
    rw [hf i _ h1,List.getElem?_eq_getElem (by omega)]
    exact ⟨_,rfl⟩) (by rw [hl,hc];omega)
  rw [List.drop_zero] at hv
  exact ⟨g v,by show d.K w (f (g v)) cs;rw [hg];exact hv,by show ok (f (g v));rw [hg];exact hok⟩
theorem of_arg {P:Program} {t e:TypeId} {α:Type} {d:Kd α} {ok:List α→Prop} (h:Opens P t (Kd.slice e d) ok) {H:Type} {enc:TypeId × Value→H} {w:World} {base:Nat} {spare:Nat→Bool} {held:Bool} {a:Option Addr} {len cap:Nat} {x:DataW H} {ps:List MemPlace}
    (hx:DataW.Trod enc P w base spare held t (.slice a len cap) x ps):∃ xs:List α,xs.length=len∧xs.length≤cap∧d.C w a xs.length xs∧ok xs:=by
  obtain ⟨fuel,hf⟩:=hx
  obtain ⟨xs,⟨A,c,he,hl,hC⟩,hok⟩:=h H enc w base spare held fuel _ _ hf
  simp [Value.cells] at he
  obtain ⟨rfl,rfl,rfl⟩:=he
  exact ⟨xs,rfl,hl,hC,hok⟩
theorem of_arg_st {P:Program} {t:TypeId} {α:Type} {d:Kd α} {ok:α→Prop} (h:Opens P t d ok) {H:Type} {enc:TypeId × Value→H} {w:World} {base:Nat} {spare:Nat→Bool} {held:Bool} {cs:Array Value} {x:DataW H} {ps:List MemPlace}
    (hx:DataW.Trod enc P w base spare held t (.agg cs) x ps):∃ v:α,d.K w v cs.toList∧ok v:=by
  obtain ⟨fuel,hf⟩:=hx
  exact h H enc w base spare held fuel _ _ hf
end Go.Proofs.YtlhniagacegbeaaDoor.Opn
