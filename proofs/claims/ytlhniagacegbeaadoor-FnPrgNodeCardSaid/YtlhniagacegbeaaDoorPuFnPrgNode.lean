/- A call is done at one node. -/
import Derived.Test.YtlhniagacegbeaaDoorMProgD
import Derived.Test.YtlhniagacegbeaaDoorMMakeI
import Derived.Test.YtlhniagacegbeaaDoorMCa
import Derived.Test.YtlhniagacegbeaaDoorP12
import Derived.Test.YtlhniagacegbeaaDoorP13
namespace Go.Proofs.YtlhniagacegbeaaDoor.Pu
open Go.RowKit Go.Proofs.YtlhniagacegbeaaDoor.Cat Go.Proofs.YtlhniagacegbeaaDoor.P Go.Proofs.YtlhniagacegbeaaDoorW.PrintWords Go.Proofs.YtlhniagacegbeaaDoorW.PrintLast
set_option linter.unusedVariables false
set_option linter.unusedSimpArgs false
theorem questions_ok:∃ L,spec_l20Questions.f=some L∧L.length=18∧∀ x ∈ L,x.size≤1000:=by
  have key:∀ N:List ByteArray,(decide (N.length=18) && N.all fun x=>decide (x.size≤1000))=true→N.length=18∧∀ x ∈ N,x.size≤1000:=fun N h=>by
    rw [Bool.and_eq_true,decide_eq_true_eq] at h
    exact ⟨h.1,fun x hx=>by simpa using List.all_eq_true.1 h.2 x hx⟩
  exact ⟨_,rfl,key _ (by decide)⟩
theorem draw_node {l:List Int} (h:IsCode l):∃ cs ps t,Ev (fun k=>spec_DrawPrgNode.f k l) (cs,ps,t)∧SmP ⟨cs,ps⟩:=by
  obtain ⟨b,hb,hc⟩:=code_of h
  obtain ⟨⟨cs,ps,q⟩,hr,hcs,hps,q0,q1⟩:=progOr_ev hc 14 (by omega) (p:=0) (by omega) (by omega)
  replace hps:ps.length≤2000:=hps
  replace q0:0≤q:=q0
  replace q1:q≤0+500000:=q1
  have hp:SmP ⟨cs,ps⟩:=⟨by have:cs.length≤2000:=hcs.1;show cs.length≤1048576;omega,by show ps.length≤1048576;omega,hcs.2⟩
  obtain ⟨x,e1,x0,x2,_⟩:=pick_ev hc (p:=q) q0 (by omega) 2 (by omega)
  by_cases c:x=0
  · obtain ⟨L,eL,hL,hs⟩:=questions_ok
    obtain ⟨y,e2,y0,y18,_⟩:=pick_ev hc (p:=q+1) (by omega) (by omega) 18 (by omega)
    have y18:=y18 (by omega)
    have hm:=hs _ (rdOf_mem ByteArray.empty L y y0 (by omega))
    obtain ⟨r,er,_⟩:=sread_any (rdOf ByteArray.empty L y) (by omega)
    exact ⟨cs,ps,r.1,by unfold spec_DrawPrgNode.f;exact Ev.bindv hb (Ev.bind hr (Ev.bind e1 (Ev.ifp c (Ev.bindv eL (Ev.bind e2 (Ev.ifp y0 (Ev.ifp (by omega) (Ev.bind er (Ev.now _))))))))),hp⟩
  · obtain ⟨t,q2,e2,_⟩:=termOr_ev hc (p:=q+1) (by omega) (by omega) 9 (by omega)
    exact ⟨cs,ps,t,by unfold spec_DrawPrgNode.f;exact Ev.bindv hb (Ev.bind hr (Ev.bind e1 (Ev.ifn c (Ev.bind e2 (Ev.now _))))),hp⟩
def lastNode (c:Cell) (want:Int):List Cat.Place→Int
  | []=>want
  | p :: r=>lastNode c (if p.f0.toList=c.f2.toList∧p.f1=c.f1 then p.f2 else want) r
theorem lastNode_no (c:Cell):∀ (r:List Cat.Place) (want:Int),(∀ q ∈ r,¬ (q.f0.toList=c.f2.toList∧q.f1=c.f1))→lastNode c want r=want
  | [],want,h=>rfl
  | p :: r,want,h=>by
    rw [lastNode,if_neg (h p (by simp))]
    exact lastNode_no c r want (fun q hq=>h q (by simp [hq]))
theorem new_far:∀ (r a:List Cat.Place),newPlaces a r=true→∀ q ∈ r,∀ y ∈ a,samePlace q y=false
  | [],a,h,q,hq=>by cases hq
  | p :: r,a,h,q,hq=>fun y hy=>by
    rw [newPlaces_cons,Bool.and_eq_true,Bool.and_eq_true] at h
    rcases List.mem_cons.1 hq with rfl|hq
    · have h2:=h.2.1
      rw [Bool.not_eq_true',Bool.eq_false_iff] at h2
      rw [Bool.eq_false_iff]
      exact fun e=>h2 (List.any_eq_true.2 ⟨y,hy,e⟩)
    · exact new_far r (a++[p]) h.2.2 q hq y (by simp [hy])
theorem last_first (c:Cell):∀ (r a:List Cat.Place),newPlaces a r=true→lastNode c 0 r=nodeOf c r
  | [],a,h=>rfl
  | p :: r,a,h=>by
    have h':=h
    rw [newPlaces_cons,Bool.and_eq_true,Bool.and_eq_true] at h'
    by_cases hm:p.f0.toList=c.f2.toList∧p.f1=c.f1
    · rw [lastNode,if_pos hm,nodeOf,if_pos hm]
      refine lastNode_no c r _ (fun q hq hqm=>?_)
      have:=new_far r (a++[p]) h'.2.2 q hq p (by simp)
      rw [(same_iff q p).2 ⟨hqm.1.trans hm.1.symm,hqm.2.trans hm.2.symm⟩] at this
      cases this
    · rw [lastNode,if_neg hm,nodeOf,if_neg hm]
      exact last_first c r (a++[p]) h'.2.2
theorem want_loop (n:Int) (cs:List Clause) (c:Cell) (l:List Cell):∀ (r a:List Cat.Place) (want:Int),a.length+r.length≤9223372036854775806→Ev (fun k=>laws_FnPrgNode.l1 k (c :: l) n (lastNode c want r) [] 0 cs (a++r)) true→Ev (fun k=>laws_FnPrgNode.l0 k (c :: l) n want ((a.length:Nat):Int) cs (a++r)) true
  | [],a,want,hb,H=>by
    refine Ev.step (fun k=>rfl) ?_
    simp only [laws_FnPrgNode.l0]
    exact Ev.ifn (not_lt_app a) H
  | p :: r,a,want,hb,H=>by
    rw [List.length_cons] at hb
    have I:∀ w,w=(if p.f0.toList=c.f2.toList∧p.f1=c.f1 then p.f2 else want)→Ev (fun k=>laws_FnPrgNode.l0 k (c :: l) n w (((a.length+1:Nat)):Int) cs (a++p :: r)) true:=fun w hw=>by
      have:=want_loop n cs c l r (a++[p]) w (by rw [snoc_len];omega) (by rw [List.append_assoc,List.singleton_append,hw];exact H)
      rw [snoc_len,List.append_assoc,List.singleton_append] at this
      exact this
    refine Ev.step (fun k=>rfl) ?_
    simp only [laws_FnPrgNode.l0]
    refine Ev.ifp (lt_app a r p) (Ev.ifp (by omega) (Ev.ifp (by rw [List.length_cons];omega) ?_))
    rw [rdPl,wnext (by omega),show rd_T44 (c :: l) 0=c from rfl]
    by_cases h0:p.f0.toList=c.f2.toList
    · refine Ev.ifp h0 ?_
      by_cases h1:p.f1=c.f1
      · exact Ev.ifp h1 (I _ (by rw [if_pos ⟨h0,h1⟩]))
      · exact Ev.ifn h1 (I _ (by rw [if_neg (fun h=>h1 h.2)]))
    · exact Ev.ifn h0 (I _ (by rw [if_neg (fun h=>h0 h.1)]))
def nums (m:Nat):List (List Cell):=(List.range m).map fun (i:Nat)=>[(⟨2,(i:Int),(⟨#[]⟩:ByteArray)⟩:Cell)]
theorem nums_len (m:Nat):(nums m).length=m:=by simp [nums]
theorem nums_succ (m:Nat):nums m++[[(⟨2,(m:Int),(⟨#[]⟩:ByteArray)⟩:Cell)]]=nums (m+1):=by simp [nums,List.range_succ]
theorem make_nums (c:Cell) (l:List Cell) (h:isTerm (c :: l)=true) (h3:c.f0=3):∃ m:Nat,c.f1=(m:Int)∧m≤3∧makeOf c.f2 (nums m)=c :: (nums m).flatten∧called (c :: (nums m).flatten)=true:=by
  have hc:cellOk c=true:=(isTerm_iff.1 h).2.2.1 c (by simp)
  obtain ⟨f0,f1,f2⟩:=c
  replace h3:f0=3:=h3
  subst h3
  have hk:=hc
  unfold cellOk at hk
  rw [if_neg (show ¬ (3:Int)=1 by decide),if_neg (show ¬ (3:Int)=2 by decide),if_pos rfl,Bool.and_eq_true,decide_eq_true_eq] at hk
  obtain ⟨⟨g0,g3⟩,hn⟩:=hk
  replace g0:0≤f1:=g0
  replace g3:f1≤3:=g3
  obtain ⟨m,rfl⟩:=Int.eq_ofNat_of_zero_le g0
  have hm:m≤3:=by omega
  have ht:isTerm ((⟨3,(m:Int),f2⟩:Cell) :: (nums m).flatten)=true:=by
    unfold isTerm
    rw [List.all_cons,hc]
    have:m=0∨m=1∨m=2∨m=3:=by omega
    rcases this with rfl|rfl|rfl|rfl <;> rfl
  refine ⟨m,rfl,hm,?_,by unfold called;rw [ht];rfl⟩
  unfold makeOf
  have hf:fnc f2 (nums m)=(⟨3,(m:Int),f2⟩:Cell) :: (nums m).flatten:=by unfold fnc;rw [nums_len]
  have hall:(nums m).all isTerm=true:=by
    have:m=0∨m=1∨m=2∨m=3:=by omega
    rcases this with rfl|rfl|rfl|rfl <;> decide
  rw [hf,if_pos ⟨hall,ht⟩]
theorem argn_loop (n:Int) (cs:List Clause) (ps:List Cat.Place) (c:Cell) (l:List Cell) (m:Nat) (hm:m≤3) (hc:c.f1=(m:Int)) (H:Ev (fun k=>(impl_TrmMake.f k c.f2 (nums m)).bind fun t=>(impl_PrgNode.f k cs ps t).bind fun u=>some (u == n)) true):∀ (d j:Nat),j+d=m→Ev (fun k=>laws_FnPrgNode.l1 k (c :: l) n n (nums j) (j:Int) cs ps) true
  | 0,j,hj=>by
    obtain rfl:j=m:=by omega
    refine Ev.step (fun k=>rfl) ?_
    simp only [laws_FnPrgNode.l1]
    refine Ev.ifp (by rw [List.length_cons];omega) ?_
    rw [show rd_T44 (c :: l) 0=c from rfl]
    exact Ev.ifn (by omega) (Ev.ifp (by simp) H)
  | d+1,j,hj=>by
    have I:=argn_loop n cs ps c l m hm hc H d (j+1) (by omega)
    refine Ev.step (fun k=>rfl) ?_
    simp only [laws_FnPrgNode.l1]
    refine Ev.ifp (by rw [List.length_cons];omega) ?_
    rw [show rd_T44 (c :: l) 0=c from rfl]
    refine Ev.ifp (by omega) (Ev.ifp (by rw [nums_len];omega) ?_)
    rw [wnext (by omega),nums_succ]
    exact I
theorem FnPrgNode (l:List Int) (h:IsCode l):∃ k,laws_FnPrgNode.f k l=some true:=by
  refine Ev.rounds ?_
  unfold laws_FnPrgNode.f
  by_cases hn:(l.length:Int) > 1048576
  · exact Ev.ifp hn (Ev.now _)
  obtain ⟨cs,ps,t,hd,hp⟩:=draw_node h
  refine Ev.ifn hn (Ev.bind hd (Ev.bind (inode_ev ⟨cs,ps⟩ hp t) (Ev.bind (snode_ev ⟨cs,ps⟩ hp t) (Ev.ifp rfl (Ev.bind (sprog_ev ⟨cs,ps⟩ hp) ?_)))))
  have bad:¬ (progOk ⟨cs,ps⟩=true∧called t=true)→Ev (fun k=>laws_FnPrgNode.j0 k t (progNode ⟨cs,ps⟩ t) true cs ps) true:=fun hx=>by
    refine Ev.step (fun k=>rfl) ?_
    simp only [laws_FnPrgNode.j0]
    exact Ev.ifp (by simp) (Ev.ifp (by unfold progNode;rw [if_neg hx]) (Ev.bindv caOk_ok (Ev.now _)))
  by_cases h1:progOk ⟨cs,ps⟩=true
  case neg=>exact Ev.ifn h1 (bad (fun q=>h1 q.1))
  refine Ev.ifp h1 (Ev.bind (sok_ev t) ?_)
  by_cases h2:isTerm t=true
  case neg=>exact Ev.ifn h2 (bad (fun q=>h2 (by have:=q.2;unfold called at this;rw [Bool.and_eq_true] at this;exact this.1)))
  refine Ev.ifp h2 ?_
  cases t with
  | nil=>cases h2
  | cons c r=>
    refine Ev.ifp (by simp only [List.length_cons];omega) ?_
    simp only [show rd_T44 (c :: r) 0=c from rfl]
    by_cases h3:c.f0=3
    · rw [show (c.f0 != 3)=false from bne_eq_false_iff_eq.2 h3]
      obtain ⟨m,hm,m3,hmk,hcl⟩:=make_nums c r h2 h3
      have hct:called (c :: r)=true:=by unfold called;rw [h2];simp [isFun,h3]
      have hpn:progNode ⟨cs,ps⟩ (c :: r)=nodeOf c ps:=by unfold progNode;rw [if_pos ⟨h1,hct⟩];rfl
      have hnew:newPlaces [] ps=true:=by unfold progOk at h1;simp only [Bool.and_eq_true] at h1;exact h1.2.2.2
      refine Ev.step (fun k=>rfl) ?_
      simp only [laws_FnPrgNode.j0]
      refine Ev.ifn (by simp) ?_
      rw [hpn]
      have hlen:=hp.2.1
      replace hlen:ps.length≤1048576:=hlen
      refine want_loop (nodeOf c ps) cs c r ps [] 0 (by simp;omega) ?_
      rw [last_first c ps [] hnew]
      have e1:=imake_ev c.f2 (nums m) (by rw [nums_len];omega)
      rw [hmk] at e1
      have e2:=inode_ev ⟨cs,ps⟩ hp (c :: (nums m).flatten)
      have e3:progNode ⟨cs,ps⟩ (c :: (nums m).flatten)=nodeOf c ps:=by unfold progNode;rw [if_pos ⟨h1,hcl⟩];rfl
      rw [e3] at e2
      have I:=argn_loop (nodeOf c ps) cs ([]++ps) c r m m3 hm (Ev.bind e1 (Ev.bind e2 (Ev.pure (by simp)))) m 0 (by omega)
      rw [show nums 0=[] from rfl] at I
      exact I
    · rw [show (c.f0 != 3)=true from bne_iff_ne.2 h3]
      exact bad (fun q=>h3 (by have:=q.2;unfold called isFun at this;rw [Bool.and_eq_true,decide_eq_true_eq] at this;exact this.2))
end Go.Proofs.YtlhniagacegbeaaDoor.Pu
