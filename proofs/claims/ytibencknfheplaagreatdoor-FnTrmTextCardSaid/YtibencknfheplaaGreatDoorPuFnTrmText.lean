/- A term's text is read as it. -/
import Derived.Test.YtibencknfheplaaGreatDoorMDraw
import Derived.Test.YtibencknfheplaaGreatDoorMRdS
import Derived.Test.YtibencknfheplaaGreatDoorMCa
import Derived.Test.YtibencknfheplaaGreatDoorP15
import Derived.Test.YtibencknfheplaaGreatDoorP15
import Derived.Test.YtibencknfheplaaGreatDoorP16
namespace Go.Proofs.YtibencknfheplaaGreatDoor.Pu
open Go.RowKit Go.Proofs.YtibencknfheplaaGreatDoor.Cat Go.Proofs.YtibencknfheplaaGreatDoor.P Go.Proofs.YtibencknfheplaaGreatDoorW.PrintWords Go.Proofs.YtibencknfheplaaGreatDoorW.PrintLast
set_option linter.unusedVariables false
set_option linter.unusedSimpArgs false
theorem draw_text {l:List Int} (h:IsCode l):∃ t,Ev (fun k=>spec_DrawTrmText.f k l) t:=by
  obtain ⟨b,hb,hc⟩:=code_of h
  obtain ⟨t,q,ht,_,_,hs⟩:=termOr_ev hc (p:=0) (by omega) (by omega) 6 (by omega)
  refine ⟨t,?_⟩
  unfold spec_DrawTrmText.f
  exact Ev.bindv hb (Ev.bind ht (Ev.now _))
theorem ex_size (s:ByteArray) (i j:Nat):(s.extract i j).size≤s.size:=by
  rw [Lib.size_eq,Lib.extract_data,List.length_take,List.length_drop,← Lib.size_eq];omega
theorem app_size (a b:ByteArray):(a++b).size=a.size+b.size:=by simp
theorem bent_ev {b:List Int} (hb:Code b) {p:Int} (h0:0≤p) (h1:p≤100000000) (s:ByteArray) (hs:s.size≤1000) :
    ∃ r q,Ev (fun k=>spec_l20Bent.f k b p s) (r,q)∧r.size≤4000:=by
  have hw:wrap64 ((s.size:Int)+1)=((s.size+1:Nat):Int):=wnext (by omega)
  obtain ⟨x,hx,x0,x1,_⟩:=pick_ev hb h0 (by omega) ((s.size+1:Nat):Int) (by omega)
  have x1:=x1 (by omega)
  obtain ⟨y,hy,y0,y1,_⟩:=pick_ev hb (p:=p+1) (by omega) (by omega) 256 (by omega)
  obtain ⟨z,hz,z0,z1,_⟩:=pick_ev hb (p:=p+1+1) (by omega) (by omega) 11 (by omega)
  have z1:=z1 (by omega)
  obtain ⟨u,hu,u0,u1,_⟩:=pick_ev hb (p:=p+1+1+1) (by omega) (by omega) 3 (by omega)
  obtain ⟨n,rfl⟩:=Int.eq_ofNat_of_zero_le x0
  have hw2:wrap64 ((n:Int)+1)=((n+1:Nat):Int):=wnext (by omega)
  have e0:=fun i j=>ex_size s i j
  unfold spec_l20Bent.f
  rw [hw]
  by_cases c0:u=0
  · refine ⟨_,_,Ev.bind hx (Ev.bind hy (Ev.bindv rfl (Ev.bind hz (Ev.ifp z0 (Ev.ifp (by simpa using z1) (Ev.bindv rfl (Ev.bind hu (Ev.ifp c0 (Ev.ifp (by omega) (Ev.ifp (by omega) (Ev.ifp ?_ (Ev.ifp ?_ (Ev.now _))))))))))))),?_⟩
    · have:=e0 0 (n:Int).toNat;rw [strOfNums_size];simp only [List.length_cons,List.length_nil];omega
    · have:=e0 0 (n:Int).toNat;have:=e0 (n:Int).toNat s.size;rw [app_size,strOfNums_size];simp only [List.length_cons,List.length_nil];omega
    · have:=e0 0 (n:Int).toNat;have:=e0 (n:Int).toNat s.size;rw [app_size,app_size,strOfNums_size];simp only [List.length_cons,List.length_nil];omega
  by_cases c1:u=1
  · by_cases hlt:(n:Int)<(s.size:Int)
    · refine ⟨_,_,Ev.bind hx (Ev.bind hy (Ev.bindv rfl (Ev.bind hz (Ev.ifp z0 (Ev.ifp (by simpa using z1) (Ev.bindv rfl (Ev.bind hu (Ev.ifn c0 (Ev.ifp c1 (Ev.ifp hlt (Ev.ifp (by omega) (Ev.ifp (by omega) (Ev.ifp (by show 0≤wrap64 ((n:Int)+1);omega) (Ev.ifp (by show wrap64 ((n:Int)+1)≤_;omega) (Ev.ifp ?_ (Ev.now _)))))))))))))))),?_⟩
      · have:=e0 0 (n:Int).toNat;have:=e0 (wrap64 ((n:Int)+1)).toNat s.size;show (s.extract 0 (n:Int).toNat).size+(s.extract (wrap64 ((n:Int)+1)).toNat s.size).size≤_;omega
      · have:=e0 0 (n:Int).toNat;have:=e0 (wrap64 ((n:Int)+1)).toNat s.size;rw [app_size];show (s.extract 0 (n:Int).toNat).size+(s.extract (wrap64 ((n:Int)+1)).toNat s.size).size≤_;omega
    · exact ⟨_,_,Ev.bind hx (Ev.bind hy (Ev.bindv rfl (Ev.bind hz (Ev.ifp z0 (Ev.ifp (by simpa using z1) (Ev.bindv rfl (Ev.bind hu (Ev.ifn c0 (Ev.ifp c1 (Ev.ifn hlt (Ev.now _))))))))))),by omega⟩
  · by_cases hlt:(n:Int)<(s.size:Int)
    · refine ⟨_,_,Ev.bind hx (Ev.bind hy (Ev.bindv rfl (Ev.bind hz (Ev.ifp z0 (Ev.ifp (by simpa using z1) (Ev.bindv rfl (Ev.bind hu (Ev.ifn c0 (Ev.ifn c1 (Ev.ifp hlt (Ev.ifp (by omega) (Ev.ifp (by omega) (Ev.ifp ?_ (Ev.ifp (by show 0≤wrap64 ((n:Int)+1);omega) (Ev.ifp (by show wrap64 ((n:Int)+1)≤_;omega) (Ev.ifp ?_ (Ev.now _))))))))))))))))),?_⟩
      · have:=e0 0 (n:Int).toNat;rw [strOfNums_size];simp only [List.length_cons,List.length_nil];show (s.extract 0 (n:Int).toNat).size+_≤_;omega
      · have:=e0 0 (n:Int).toNat;have:=e0 (wrap64 ((n:Int)+1)).toNat s.size;rw [app_size,strOfNums_size];simp only [List.length_cons,List.length_nil];show (s.extract 0 (n:Int).toNat).size+_+(s.extract (wrap64 ((n:Int)+1)).toNat s.size).size≤_;omega
      · have:=e0 0 (n:Int).toNat;have:=e0 (wrap64 ((n:Int)+1)).toNat s.size;rw [app_size,app_size,strOfNums_size];simp only [List.length_cons,List.length_nil];show (s.extract 0 (n:Int).toNat).size+_+(s.extract (wrap64 ((n:Int)+1)).toNat s.size).size≤_;omega
    · exact ⟨_,_,Ev.bind hx (Ev.bind hy (Ev.bindv rfl (Ev.bind hz (Ev.ifp z0 (Ev.ifp (by simpa using z1) (Ev.bindv rfl (Ev.bind hu (Ev.ifn c0 (Ev.ifn c1 (Ev.ifn hlt (Ev.now _))))))))))),by omega⟩
theorem draw_read {l:List Int} (h:IsCode l):∃ s,Ev (fun k=>spec_DrawTrmRead.f k l) s∧s.size≤4000:=by
  obtain ⟨b,hb,hc⟩:=code_of h
  obtain ⟨t,q,ht,q0,q1,hs⟩:=termOr_ev hc (p:=0) (by omega) (by omega) 99999 (by omega)
  obtain ⟨x,hx,x0,x1,_⟩:=pick_ev hc q0 (by omega) 4 (by omega)
  have htb:=textB_size t
  unfold spec_DrawTrmRead.f
  by_cases c0:x=0
  · obtain ⟨y,hy,y0,y1,_⟩:=pick_ev hc (p:=q+1) (by omega) (by omega) 17 (by omega)
    have y1:=y1 (by omega)
    refine ⟨_,Ev.bindv hb (Ev.bind ht (Ev.bind (stext_ev t) (Ev.bind hx (Ev.ifp c0 (Ev.bindv rfl (Ev.bind hy (Ev.ifp y0 (Ev.ifp (by simpa using y1) (Ev.now _))))))))),?_⟩
    obtain ⟨n,rfl⟩:=Int.eq_ofNat_of_zero_le y0
    show (rdOf ByteArray.empty _ (n:Int)).size≤4000
    unfold rdOf
    rw [Int.toNat_natCast]
    have hall:∀ (L:List ByteArray),(∀ e ∈ L,e.size≤4000)→(L.getD n ByteArray.empty).size≤4000:=fun L hL=>by
      by_cases hlt:n<L.length
      · rw [List.getD_eq_getElem?_getD,List.getElem?_eq_getElem hlt];exact hL _ (List.getElem_mem hlt)
      · rw [List.getD_eq_getElem?_getD,List.getElem?_eq_none (by omega)];decide
    refine hall _ ?_
    simp only [List.mem_cons,List.not_mem_nil,or_false]
    rintro e (rfl|rfl|rfl|rfl|rfl|rfl|rfl|rfl|rfl|rfl|rfl|rfl|rfl|rfl|rfl|rfl|rfl) <;> decide
  by_cases c1:x=1
  · obtain ⟨r,q2,hr,hrs⟩:=bent_ev hc (p:=q+1) (by omega) (by omega) (textB t) (by omega)
    exact ⟨r,Ev.bindv hb (Ev.bind ht (Ev.bind (stext_ev t) (Ev.bind hx (Ev.ifn c0 (Ev.ifp c1 (Ev.bind hr (Ev.now _))))))),hrs⟩
  · exact ⟨_,Ev.bindv hb (Ev.bind ht (Ev.bind (stext_ev t) (Ev.bind hx (Ev.ifn c0 (Ev.ifn c1 (Ev.now _)))))),by omega⟩
theorem FnTrmText (l:List Int) (h:IsCode l) (l1:List Int) (h1:IsCode l1):∃ k,laws_FnTrmText.f k l l1=some true:=by
  refine Ev.rounds ?_
  unfold laws_FnTrmText.f
  have hj:∀ b:Bool,Ev (fun k=>laws_FnTrmText.j0 k l l1 b) true:=by
    intro b
    refine Ev.step (fun k=>rfl) ?_
    simp only [laws_FnTrmText.j0]
    cases b with
    | true=>exact Ev.ifp (by simp) (Ev.now _)
    | false=>
      refine Ev.ifn (by simp) ?_
      obtain ⟨t,ht⟩:=draw_text h
      obtain ⟨s,hs,hsz⟩:=draw_read h1
      have hl:=readP_len s
      have hi:=iread_ev s (by omega)
      refine Ev.bind ht (Ev.bind hs (Ev.bind hi (Ev.bind (sread_ev s (by omega)) (Ev.bind (itext_ev t) (Ev.bind (stext_ev t) (Ev.ifp rfl (Ev.bind (caTerm_ev _ _ (by omega)) (Ev.ifp (by simp) (Ev.ifn (by simp) (Ev.bindv (iok t) (Ev.bind (sok_ev t) ?_)))))))))))
      rw [show (isTerm t != isTerm t)=false by simp]
      refine Ev.step (fun k=>rfl) ?_
      simp only [laws_FnTrmText.j1]
      refine Ev.ifn (by simp) ?_
      have h2:Ev (fun k=>laws_FnTrmText.j2 k t false) true:=by
        refine Ev.step (fun k=>rfl) ?_
        simp only [laws_FnTrmText.j2]
        refine Ev.ifn (by simp) (Ev.bind (sok_ev t) ?_)
        by_cases hT:isTerm t=true
        · refine Ev.ifp hT (Ev.bind (itext_ev t) ?_)
          have e:textB t=ba (Cat.text t):=by unfold textB;rw [if_pos hT]
          have hr:=iread_ev (textB t) (by have:=textB_size t;omega)
          have ep:readP (textB t)=(t,true):=readP_term hT (by rw [e,ba_data])
          rw [ep] at hr
          have hlt:=(isTerm_iff.1 hT).2.1
          refine Ev.bind hr (Ev.ifp rfl (Ev.bind (caTerm_ev _ _ (by show t.length≤_;omega)) (Ev.pure ?_)))
          simp
        · refine Ev.ifn hT (Ev.bind (itext_ev t) ?_)
          have e:textB t=⟨#[]⟩:=by unfold textB;rw [if_neg hT]
          rw [e]
          exact Ev.ifp (by rw [ByteArray.toList_eq]) (Ev.bindv caOk_ok (Ev.now _))
      rcases readP_cases s with ⟨u,u1,u2,e⟩|⟨_,e⟩
      · rw [e]
        refine Ev.ifp rfl (Ev.bindv (iok u) (Ev.ifp u1 (Ev.bind (itext_ev u) ?_)))
        have et:(textB u).toList=s.toList:=by
          rw [ByteArray.toList_eq,ByteArray.toList_eq]
          unfold textB;rw [if_pos u1,ba_data,u2]
        rw [show ((textB u).toList != s.toList)=false by rw [et];simp]
        exact h2
      · rw [e]
        exact Ev.ifn (by simp) h2
  by_cases hn:(l.length:Int) > 1048576
  · exact Ev.ifp hn (hj _)
  · exact Ev.ifn hn (hj _)
end Go.Proofs.YtibencknfheplaaGreatDoor.Pu
