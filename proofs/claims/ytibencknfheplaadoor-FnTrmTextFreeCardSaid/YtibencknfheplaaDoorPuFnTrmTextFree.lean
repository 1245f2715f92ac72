/- A text tells its variables; a text with a space at an end is read as none. -/
import Derived.Test.YtibencknfheplaaDoorMDraw
import Derived.Test.YtibencknfheplaaDoorMRdS
import Derived.Test.YtibencknfheplaaDoorMCa
import Derived.Test.YtibencknfheplaaDoorP11
import Derived.Test.YtibencknfheplaaDoorP12
namespace Go.Proofs.YtibencknfheplaaDoor.Pu
open Go.RowKit Go.Proofs.YtibencknfheplaaDoor.Cat Go.Proofs.YtibencknfheplaaDoor.P Go.Proofs.YtibencknfheplaaDoorW.PrintWords
set_option linter.unusedVariables false
set_option linter.unusedSimpArgs false
theorem draw_text {l:List Int} (h:IsCode l):∃ t,Ev (fun k=>spec_DrawTrmText.f k l) t:=by
  obtain ⟨b,hb,hc⟩:=code_of h
  obtain ⟨t,q,ht,_,_,hs⟩:=termOr_ev hc (p:=0) (by omega) (by omega) 6 (by omega)
  refine ⟨t,?_⟩
  unfold spec_DrawTrmText.f
  exact Ev.bindv hb (Ev.bind ht (Ev.now _))
theorem forest_swap {c c':Cell} {r:List Cell} (h:ar c=ar c'):∀ (a:List Cell) (n:Nat),Forest n (a++c :: r)→Forest n (a++c' :: r)
  | [],0,hf=>by cases hf.zero
  | [],n+1,hf=>by
    rw [List.nil_append] at hf ⊢
    rw [Forest.cons_iff] at hf ⊢
    rw [← h];exact hf
  | x :: a,0,hf=>by cases hf.zero
  | x :: a,n+1,hf=>by
    rw [List.cons_append] at hf ⊢
    rw [Forest.cons_iff] at hf ⊢
    exact forest_swap h a _ hf
theorem none_of {l:List UInt8} {s:ByteArray} (hs:s.data.toList=l) (h:32 ∈ l):readP s=([],false):=
  readP_none (fun t ht e=>text_sp ht 32 (by rw [e,hs];exact h) rfl)
theorem free_loop (t:List Cell) (ht:isTerm t=true):∀ (r a:List Cell),t=a++r→Ev (fun k=>laws_FnTrmTextFree.l0 k t (ba (Cat.text t)) ((a.length:Nat):Int)) true
  | [],a,h=>by
    have hl:=text_len ht
    refine Ev.step (fun k=>rfl) ?_
    simp only [laws_FnTrmTextFree.l0]
    refine Ev.ifn (by rw [h];simp) (Ev.ifp (by rw [ba_size];omega) ?_)
    have e1:readP (ba (Cat.text t)++(⟨#[32]⟩:ByteArray))=([],false):=none_of (l:=Cat.text t++[32]) (by rw [show (⟨#[32]⟩:ByteArray)=ba [32] from rfl,ba_app,ba_data]) (by simp)
    have e2:readP ((⟨#[32]⟩:ByteArray)++ba (Cat.text t))=([],false):=none_of (l:=[32]++Cat.text t) (by rw [show (⟨#[32]⟩:ByteArray)=ba [32] from rfl,ba_app,ba_data]) (by simp)
    have h1:=iread_ev (ba (Cat.text t)++(⟨#[32]⟩:ByteArray)) (by rw [show (⟨#[32]⟩:ByteArray)=ba [32] from rfl,ba_app,ba_size];simp;omega)
    have h2:=iread_ev ((⟨#[32]⟩:ByteArray)++ba (Cat.text t)) (by rw [show (⟨#[32]⟩:ByteArray)=ba [32] from rfl,ba_app,ba_size];simp;omega)
    rw [e1] at h1
    rw [e2] at h2
    exact Ev.bind h1 (Ev.ifp (by rw [ba_size];omega) (Ev.bind h2 (Ev.ifn (by simp) (Ev.now _))))
  | c :: r,a,h=>by
    obtain ⟨b1,b2,b3,b4⟩:=isTerm_iff.1 ht
    have hc:cellOk c=true:=b3 c (by rw [h];simp)
    have hal:a.length+(r.length+1)≤40:=by rw [h] at b2;simpa using b2
    have ih:=free_loop t ht r (a++[c]) (by rw [h];simp)
    rw [snoc_len] at ih
    have hrd:rd_T34 t ((a.length:Nat):Int)=c:=by rw [h];exact rdC a r c
    have hlt:((a.length:Nat):Int)<(t.length:Int):=by rw [h];simp;omega
    refine Ev.step (fun k=>rfl) ?_
    simp only [laws_FnTrmTextFree.l0,hrd]
    have hno:Ev (fun k=>laws_FnTrmTextFree.j1 k t (ba (Cat.text t)) ((a.length:Nat):Int) false) true:=by
      refine Ev.step (fun k=>rfl) ?_
      simp only [laws_FnTrmTextFree.j1]
      refine Ev.ifn (by simp) ?_
      rw [wnext (by omega)]
      exact ih
    refine Ev.ifp hlt (Ev.ifp (by omega) ?_)
    by_cases h1:c.f0=1
    · refine Ev.ifp h1 ?_
      by_cases hv:c.f1<99999
      · rw [decide_eq_true hv]
        refine Ev.step (fun k=>rfl) ?_
        simp only [laws_FnTrmTextFree.j1]
        refine Ev.ifp (by simp) (Ev.bindv rfl (Ev.ifp (by simp;omega) (Ev.bindv rfl ?_)))
        simp only [List.nil_append,hrd]
        refine Ev.ifp (by omega) (Ev.ifp hlt ?_)
        have hcc:=hc
        unfold cellOk at hcc
        rw [if_pos h1] at hcc
        simp only [Bool.and_eq_true,decide_eq_true_eq,List.isEmpty_iff] at hcc
        have hw:wrap64 (c.f1+1)=c.f1+1:=w64 (by omega) (by omega)
        rw [hw]
        have hset:t.set (((a.length:Nat):Int)).toNat ⟨c.f0,c.f1+1,c.f2⟩=a ++ ⟨c.f0,c.f1+1,c.f2⟩ :: r:=by rw [h];exact setC a r c _
        rw [hset]
        have hc':cellOk ⟨c.f0,c.f1+1,c.f2⟩=true:=by
          unfold cellOk
          rw [if_pos h1]
          simp only [Bool.and_eq_true,decide_eq_true_eq,List.isEmpty_iff]
          exact ⟨by show 0≤c.f1+1∧c.f1+1≤99999;omega,hcc.2⟩
        have hx:isTerm (a ++ ⟨c.f0,c.f1+1,c.f2⟩ :: r)=true:=by
          refine isTerm_iff.2 ⟨by simp;omega,by simp;omega,?_,?_⟩
          · rw [h] at b3
            obtain ⟨o1,o2⟩:=okl_append.1 b3
            exact okl_append.2 ⟨o1,okl_cons.2 ⟨hc',(okl_cons.1 o2).2⟩⟩
          · rw [h] at b4
            refine forest_swap ?_ a 1 b4
            rw [ar_var h1,ar_var (show (⟨c.f0,c.f1+1,c.f2⟩:Cell).f0=1 from h1)]
        refine Ev.bind (itext_ev _) ?_
        refine Ev.ifn ?_ ?_
        · intro e
          rw [ByteArray.toList_eq,ByteArray.toList_eq] at e
          unfold textB at e
          rw [if_pos hx,ba_data,ba_data] at e
          have e2:=text_inj hx ht e
          rw [h] at e2
          have e3:=List.append_cancel_left e2
          injection e3 with e3 _
          have e4:=congrArg Cell.f1 e3
          simp only at e4
          omega
        · rw [wnext (by omega)]
          exact ih
      · rw [decide_eq_false hv]
        exact hno
    · exact Ev.ifn h1 hno
theorem FnTrmTextFree (l:List Int) (h:IsCode l):∃ k,laws_FnTrmTextFree.f k l=some true:=by
  refine Ev.rounds ?_
  unfold laws_FnTrmTextFree.f
  by_cases hn:(l.length:Int) > 1048576
  · exact Ev.ifp hn (Ev.now _)
  refine Ev.ifn hn ?_
  obtain ⟨t,ht⟩:=draw_text h
  refine Ev.bind ht (Ev.bind (itext_ev t) (Ev.bind (stext_ev t) (Ev.ifp rfl (Ev.bind (sok_ev t) ?_))))
  by_cases hT:isTerm t=true
  · refine Ev.ifp hT ?_
    have e:textB t=ba (Cat.text t):=by unfold textB;rw [if_pos hT]
    rw [e]
    exact free_loop t hT t [] rfl
  · refine Ev.ifn hT ?_
    have e:textB t=⟨#[]⟩:=by unfold textB;rw [if_neg hT]
    rw [e]
    exact Ev.ifp (by rw [ByteArray.toList_eq]) (Ev.bindv caOk_ok (Ev.now _))
end Go.Proofs.YtibencknfheplaaDoor.Pu
