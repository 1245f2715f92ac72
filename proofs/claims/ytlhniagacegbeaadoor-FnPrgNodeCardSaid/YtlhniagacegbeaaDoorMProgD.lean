/- The draws of programs: each ends, whatever the code; what is drawn is small. -/
import Derived.Test.YtlhniagacegbeaaDoorMGoalD
import Derived.Test.YtlhniagacegbeaaDoorMAny
import Derived.Test.YtlhniagacegbeaaDoorMGTx
import Derived.Test.YtlhniagacegbeaaDoorP8
import Derived.Test.YtlhniagacegbeaaDoorP9
import Derived.Test.YtlhniagacegbeaaDoorP4
import Derived.Test.YtlhniagacegbeaaDoorP11
namespace Go.Proofs.YtlhniagacegbeaaDoor.Pu
open Go.RowKit Go.Proofs.YtlhniagacegbeaaDoor.Cat Go.Proofs.YtlhniagacegbeaaDoor.P Go.Proofs.YtlhniagacegbeaaDoorW.PrintWords Go.Lib
set_option linter.unusedVariables false
set_option linter.unusedSimpArgs false
set_option maxRecDepth 100000
theorem rdS (a r:List ByteArray) (x:ByteArray):rdOf ByteArray.empty (a++x :: r) ((a.length:Nat):Int)=x:=by simp [rdOf,List.getD]
theorem sz4 (x y z u:UInt8):(⟨#[x,y,z,u]⟩:ByteArray).size=4:=rfl
theorem sz5 (x y z u v:UInt8):(⟨#[x,y,z,u,v]⟩:ByteArray).size=5:=rfl
theorem sz1 (x:UInt8):(⟨#[x]⟩:ByteArray).size=1:=rfl
def SmGs (l:List Goal):Prop:=∀ g ∈ l,g.f1.length≤41∧g.f2.length≤41∧g.f3.length≤41
theorem line_loop (h:List Cell):∀ (r a:List Goal) (x:ByteArray),SmGs r→a.length+r.length≤1000→x.size≤1000000+2000 * a.length→∃ t,Ev (fun k=>spec_l3Line.l0 k x ((a.length:Nat):Int) h (a++r)) t∧t.size≤x.size+1400 * r.length
 | [],a,x,hs,hl,hx=>by
  refine ⟨x,Ev.step (f:=fun _=>some x) (fun k=>?_) (Ev.now _),by simp⟩
  simp only [spec_l3Line.l0]
  rw [if_neg (not_lt_app a)]
 | g :: r,a,x,hs,hl,hx=>by
  rw [List.length_cons] at hl
  obtain ⟨h1,h2,h3⟩:=hs g (by simp)
  have e:=sgtext_ev g.f0 g.f1 g.f2 g.f3 (by omega) (by omega) (by omega)
  have hz:=gtext_size g.f0 g.f1 g.f2 g.f3
  by_cases h0:((a.length:Nat):Int)=0
  ·obtain ⟨t,ht,hts⟩:=line_loop h r (a++[g]) ((x++(⟨#[32,105,102,32]⟩:ByteArray))++gtext g.f0 g.f1 g.f2 g.f3) (fun g hg=>hs g (by simp [hg])) (by rw [snoc_len];omega) (by rw [snoc_len,ByteArray.size_append,ByteArray.size_append,sz4];omega)
   rw [snoc_len,List.append_assoc,List.singleton_append] at ht
   refine ⟨t,Ev.step (fun k=>rfl) ?_,by rw [ByteArray.size_append,ByteArray.size_append,sz4] at hts;rw [List.length_cons];omega⟩
   simp only [spec_l3Line.l0]
   refine Ev.ifp (lt_app a r g) (Ev.ifp h0 (Ev.ifp (by omega) (Ev.ifp (by omega) ?_)))
   rw [rdGo]
   refine Ev.bind e (Ev.ifp (by rw [ByteArray.size_append,sz4];omega) ?_)
   rw [wnext (by omega)]
   exact ht
  ·obtain ⟨t,ht,hts⟩:=line_loop h r (a++[g]) ((x++(⟨#[32,97,110,100,32]⟩:ByteArray))++gtext g.f0 g.f1 g.f2 g.f3) (fun g hg=>hs g (by simp [hg])) (by rw [snoc_len];omega) (by rw [snoc_len,ByteArray.size_append,ByteArray.size_append,sz5];omega)
   rw [snoc_len,List.append_assoc,List.singleton_append] at ht
   refine ⟨t,Ev.step (fun k=>rfl) ?_,by rw [ByteArray.size_append,ByteArray.size_append,sz5] at hts;rw [List.length_cons];omega⟩
   simp only [spec_l3Line.l0]
   refine Ev.ifp (lt_app a r g) (Ev.ifn h0 (Ev.ifp (by omega) (Ev.ifp (by omega) ?_)))
   rw [rdGo]
   refine Ev.bind e (Ev.ifp (by rw [ByteArray.size_append,sz5];omega) ?_)
   rw [wnext (by omega)]
   exact ht
theorem line_ev (h:List Cell) (gs:List Goal) (hs:SmGs gs) (hl:gs.length≤10):∃ t,Ev (fun k=>spec_l3Line.f k h gs) t∧t.size≤20000:=by
 have hz:=textB_size h
 obtain ⟨t,ht,hts⟩:=line_loop h gs [] (textB h) hs (by simp;omega) (by omega)
 exact ⟨t,by unfold spec_l3Line.f;exact Ev.bind (stext_ev h) ht,by omega⟩
theorem wprev {n:Nat} (h:n≤1000000):wrap64 (((n+1:Nat):Int) - 1)=(n:Int):=by rw [w64 (by omega) (by omega)];omega
theorem smGs_snoc {l:List Goal} (h:SmGs l) {g:Goal} (h1:g.f1.length≤41) (h2:g.f2.length≤41) (h3:g.f3.length≤41):SmGs (l++[g]):=by
 intro x hx
 rcases List.mem_append.1 hx with hx|hx
 ·exact h x hx
 ·rw [List.mem_singleton.1 hx];exact ⟨h1,h2,h3⟩
theorem clause_loop {b:List Int} (hb:Code b) (hd:List Cell):∀ (n:Nat) (gs:List Goal) (p:Int),gs.length+n≤10→SmGs gs→0≤p→p+2000 * n≤50000000→
  ∃ t q,Ev (fun k=>spec_l20Clause.l0 k (n:Int) b p hd gs) (t,q)∧0≤q∧q≤p+2000 * n∧t.size≤20000
 | 0,gs,p,hl,hs,h0,h1=>by
  obtain ⟨t,ht,hz⟩:=line_ev hd gs hs (by omega)
  refine ⟨t,p,Ev.step (fun k=>rfl) ?_,h0,by omega,hz⟩
  simp only [spec_l20Clause.l0]
  exact Ev.ifn (by omega) (Ev.bind ht (Ev.now _))
 | n+1,gs,p,hl,hs,h0,h1=>by
  obtain ⟨l,q1,e1,a1,b1,l1⟩:=head_ev hb h0 (by omega)
  obtain ⟨x,e2,x0,x5,_⟩:=pick_ev hb (p:=q1) a1 (by omega) 5 (by omega)
  by_cases c0:x=0
  ·obtain ⟨t,q,ht,q0,q2,tz⟩:=clause_loop hb hd n (gs++[⟨3,[],[],[]⟩]) (q1+1) (by simp;omega) (smGs_snoc hs (by simp) (by simp) (by simp)) (by omega) (by omega)
   refine ⟨t,q,Ev.step (fun k=>rfl) ?_,q0,by omega,tz⟩
   simp only [spec_l20Clause.l0]
   refine Ev.ifp (by omega) (Ev.bind e1 (Ev.bind e2 (Ev.ifp c0 (Ev.ifp (by omega) ?_))))
   rw [wprev (by omega)]
   exact ht
  by_cases c1:x=1
  ·obtain ⟨t1,p1,f1,g1,k1,_,m1,_⟩:=term_ev hb (p:=q1+1) (by omega) (by omega) 5 4 (by omega) (by omega)
   obtain ⟨t2,p2,f2,g2,k2,_,m2,_⟩:=term_ev hb (p:=p1) g1 (by omega) 5 4 (by omega) (by omega)
   obtain ⟨t,q,ht,q0,q2,tz⟩:=clause_loop hb hd n (gs++[⟨2,t1,t2,[]⟩]) p2 (by simp;omega) (smGs_snoc hs (by show t1.length≤41;omega) (by show t2.length≤41;omega) (by simp)) g2 (by omega)
   refine ⟨t,q,Ev.step (fun k=>rfl) ?_,q0,by omega,tz⟩
   simp only [spec_l20Clause.l0]
   refine Ev.ifp (by omega) (Ev.bind e1 (Ev.bind e2 (Ev.ifn c0 (Ev.ifp c1 (Ev.bind f1 (Ev.bind f2 (Ev.ifp (by omega) ?_)))))))
   rw [wprev (by omega)]
   exact ht
  ·obtain ⟨t,q,ht,q0,q2,tz⟩:=clause_loop hb hd n (gs++[⟨1,l,[],[]⟩]) (q1+1) (by simp;omega) (smGs_snoc hs (by show l.length≤41;omega) (by simp) (by simp)) (by omega) (by omega)
   refine ⟨t,q,Ev.step (fun k=>rfl) ?_,q0,by omega,tz⟩
   simp only [spec_l20Clause.l0]
   refine Ev.ifp (by omega) (Ev.bind e1 (Ev.bind e2 (Ev.ifn c0 (Ev.ifn c1 (Ev.ifp (by omega) ?_)))))
   rw [wprev (by omega)]
   exact ht
theorem dclause_ev {b:List Int} (hb:Code b) {p:Int} (h0:0≤p) (h1:p≤40000000):∃ t q,Ev (fun k=>spec_l20Clause.f k b p) (t,q)∧0≤q∧q≤p+10000∧t.size≤20000:=by
 obtain ⟨l,q1,e1,a1,b1,l1⟩:=head_ev hb h0 (by omega)
 obtain ⟨x,e2,x0,x3,_⟩:=pick_ev hb (p:=q1) a1 (by omega) 3 (by omega)
 have x3:=x3 (by omega)
 obtain ⟨n,rfl⟩:=Int.eq_ofNat_of_zero_le x0
 obtain ⟨t,q,ht,q0,q2,tz⟩:=clause_loop hb l n [] (q1+1) (by simp;omega) (fun _ h=>by cases h) (by omega) (by omega)
 exact ⟨t,q,by unfold spec_l20Clause.f;exact Ev.bind e1 (Ev.bind e2 ht),q0,by omega,tz⟩
def Ls (L:List ByteArray):Prop:=∀ x ∈ L,x.size≤20000
theorem Ls.app {L M:List ByteArray} (h:Ls L) (k:Ls M):Ls (L++M):=fun x hx=>(List.mem_append.1 hx).elim (h x) (k x)
def Rows3 (B:List (List ByteArray)):Prop:=B.length=13∧∀ L ∈ B,L.length≤3∧Ls L
theorem blocks_ok:∃ B,spec_l20Blocks.f=some B∧Rows3 B:=by
 have key:∀ B:List (List ByteArray),(decide (B.length=13) && B.all fun L=>decide (L.length≤3) && L.all fun x=>decide (x.size≤20000))=true→Rows3 B:=fun B h=>by
  rw [Bool.and_eq_true,decide_eq_true_eq] at h
  refine ⟨h.1,fun L hL=>?_⟩
  have:=List.all_eq_true.1 h.2 L hL
  rw [Bool.and_eq_true,decide_eq_true_eq] at this
  exact ⟨this.1,fun x hx=>by simpa using List.all_eq_true.1 this.2 x hx⟩
 exact ⟨_,rfl,key _ (by decide)⟩
theorem rdB_mem (B:List (List ByteArray)) (i:Int) (h0:0≤i) (h1:i<(B.length:Int)):rd_L10 B i ∈ B:=by
 unfold rd_L10
 have h:i.toNat<B.length:=by omega
 simp only [List.getD_eq_getElem?_getD,List.getElem?_eq_getElem h,Option.getD_some]
 exact List.getElem_mem h
theorem rows3_at {B:List (List ByteArray)} (h:Rows3 B) (i:Int) (h0:0≤i) (h1:i<(B.length:Int)):(rd_L10 B i).length≤3∧Ls (rd_L10 B i):=h.2 _ (rdB_mem B i h0 h1)
theorem lines_l1 {b:List Int} (hb:Code b) {B:List (List ByteArray)} (hB:Rows3 B) (x7 x9:Int):∀ (n:Nat) (L:List ByteArray) (p:Int),L.length+3 * n≤60→Ls L→0≤p→p+30000 * n≤30000000→
  ∃ M q,Ev (fun k=>spec_l20Lines.l1 k L x7 B x9 (n:Int) b p) (M,q)∧0≤q∧q≤p+30000 * n∧M.length≤60∧Ls M
 | 0,L,p,hl,hL,h0,h1=>by
  refine ⟨L,p,Ev.step (fun k=>rfl) ?_,h0,by omega,by omega,hL⟩
  simp only [spec_l20Lines.l1]
  refine Ev.ifn (by omega) (Ev.step (fun k=>rfl) ?_)
  simp only [spec_l20Lines.j3]
  exact Ev.ifn (by simp) (Ev.now _)
 | n+1,L,p,hl,hL,h0,h1=>by
  by_cases c:x9≥2
  case neg=>
   refine ⟨L,p,Ev.step (fun k=>rfl) ?_,h0,by omega,by omega,hL⟩
   simp only [spec_l20Lines.l1]
   refine Ev.ifp (by omega) (Ev.step (fun k=>rfl) ?_)
   simp only [spec_l20Lines.j3]
   exact Ev.ifn (by simp [c]) (Ev.now _)
  obtain ⟨i,e1,i0,i1,_⟩:=pick_ev hb h0 (by omega) (B.length:Int) (by rw [hB.1];omega)
  have i1:=i1 (by rw [hB.1];omega)
  obtain ⟨x,e2,x0,x4,_⟩:=pick_ev hb (p:=p+1) (by omega) (by omega) 4 (by omega)
  by_cases c0:x=0
  ·obtain ⟨t1,q1,f1,g1,k1,z1⟩:=dclause_ev hb (p:=p+1+1) (by omega) (by omega)
   obtain ⟨t2,q2,f2,g2,k2,z2⟩:=dclause_ev hb (p:=q1) g1 (by omega)
   by_cases cc:(wrap64 ((wrap64 ((L.length:Int) - x7))+(([t1,t2]:List ByteArray).length:Int)))≤12
   ·obtain ⟨M,q,hM,q0,qq,ml,ms⟩:=lines_l1 hb hB x7 x9 n (L++[t1,t2]) q2 (by simp;omega) (hL.app (by intro x hx;simp only [List.mem_cons,List.not_mem_nil,or_false] at hx;rcases hx with rfl|rfl <;> assumption)) g2 (by omega)
    refine ⟨M,q,Ev.step (fun k=>rfl) ?_,q0,by omega,ml,ms⟩
    simp only [spec_l20Lines.l1]
    refine Ev.ifp (by omega) (Ev.step (fun k=>rfl) ?_)
    simp only [spec_l20Lines.j3]
    refine Ev.ifp (by simp [c]) (Ev.bind e1 (Ev.ifp i0 (Ev.ifp i1 (Ev.bind e2 (Ev.ifp c0 (Ev.bind f1 (Ev.bind f2 (Ev.bindv rfl (Ev.ifp cc (Ev.ifp (by simp;omega) ?_))))))))))
    rw [wprev (by omega)]
    exact hM
   ·obtain ⟨M,q,hM,q0,qq,ml,ms⟩:=lines_l1 hb hB x7 x9 n L q2 (by omega) hL g2 (by omega)
    refine ⟨M,q,Ev.step (fun k=>rfl) ?_,q0,by omega,ml,ms⟩
    simp only [spec_l20Lines.l1]
    refine Ev.ifp (by omega) (Ev.step (fun k=>rfl) ?_)
    simp only [spec_l20Lines.j3]
    refine Ev.ifp (by simp [c]) (Ev.bind e1 (Ev.ifp i0 (Ev.ifp i1 (Ev.bind e2 (Ev.ifp c0 (Ev.bind f1 (Ev.bind f2 (Ev.bindv rfl (Ev.ifn cc ?_)))))))))
    rw [wprev (by omega)]
    exact hM
  ·obtain ⟨r3,rs⟩:=rows3_at hB i i0 i1
   by_cases cc:(wrap64 ((wrap64 ((L.length:Int) - x7))+((rd_L10 B i).length:Int)))≤12
   ·obtain ⟨M,q,hM,q0,qq,ml,ms⟩:=lines_l1 hb hB x7 x9 n (L++rd_L10 B i) (p+1+1) (by rw [List.length_append];omega) (hL.app rs) (by omega) (by omega)
    refine ⟨M,q,Ev.step (fun k=>rfl) ?_,q0,by omega,ml,ms⟩
    simp only [spec_l20Lines.l1]
    refine Ev.ifp (by omega) (Ev.step (fun k=>rfl) ?_)
    simp only [spec_l20Lines.j3]
    refine Ev.ifp (by simp [c]) (Ev.bind e1 (Ev.ifp i0 (Ev.ifp i1 (Ev.bind e2 (Ev.ifn c0 (Ev.ifp cc (Ev.ifp (by show L.length+(rd_L10 B i).length<8796093022208;omega) ?_)))))))
    rw [wprev (by omega)]
    exact hM
   ·obtain ⟨M,q,hM,q0,qq,ml,ms⟩:=lines_l1 hb hB x7 x9 n L (p+1+1) (by omega) hL (by omega) (by omega)
    refine ⟨M,q,Ev.step (fun k=>rfl) ?_,q0,by omega,ml,ms⟩
    simp only [spec_l20Lines.l1]
    refine Ev.ifp (by omega) (Ev.step (fun k=>rfl) ?_)
    simp only [spec_l20Lines.j3]
    refine Ev.ifp (by simp [c]) (Ev.bind e1 (Ev.ifp i0 (Ev.ifp i1 (Ev.bind e2 (Ev.ifn c0 (Ev.ifn cc ?_))))))
    rw [wprev (by omega)]
    exact hM
theorem lines_j1 {b:List Int} (hb:Code b) {B:List (List ByteArray)} (hB:Rows3 B) (x7 x9:Int) (L:List ByteArray) (p:Int) (hl:L.length≤30) (hL:Ls L) (h0:0≤p) (h1:p≤20000000) :
  ∃ M q,Ev (fun k=>spec_l20Lines.j1 k L x7 B x9 b p) (M,q)∧0≤q∧q≤p+200000∧M.length≤60∧Ls M:=by
 obtain ⟨x,e2,x0,x4,_⟩:=pick_ev hb h0 (by omega) 4 (by omega)
 have x4:=x4 (by omega)
 obtain ⟨n,rfl⟩:=Int.eq_ofNat_of_zero_le x0
 obtain ⟨M,q,hM,q0,qq,ml,ms⟩:=lines_l1 hb hB x7 x9 (n+1) L (p+1) (by omega) hL (by omega) (by omega)
 refine ⟨M,q,Ev.step (fun k=>rfl) ?_,q0,by omega,ml,ms⟩
 simp only [spec_l20Lines.j1]
 refine Ev.bind e2 ?_
 rw [w64 (x:=1+((n:Nat):Int)) (by omega) (by omega),show (1:Int)+((n:Nat):Int)=((n+1:Nat):Int) by omega]
 exact hM
theorem lines_l0 {b:List Int} (hb:Code b) (N:List ByteArray) (hN:N.length=11) (hNs:∀ x ∈ N,x.size≤100) (x5:Int) (h5:0≤x5) (h5':x5<11):∀ (n:Nat) (L:List ByteArray) (p:Int),n≤5→L.length+n≤5→Ls L→0≤p→p+1000 * n≤10000000→
  ∃ M q,Ev (fun k=>spec_l20Lines.l0 k L N x5 (n:Int) b p) (M,q)∧0≤q∧q≤p+1000 * n+300000∧M.length≤60∧Ls M
 | 0,L,p,hn,hl,hL,h0,h1=>by
  obtain ⟨B,eB,hB⟩:=blocks_ok
  have hBl:=hB.1
  obtain ⟨x,e1,x0,x4,_⟩:=pick_ev hb h0 (by omega) 4 (by omega)
  by_cases c:x<2
  ·obtain ⟨r3,s3⟩:=rows3_at hB 3 (by omega) (by omega)
   obtain ⟨r4,s4⟩:=rows3_at hB 4 (by omega) (by omega)
   obtain ⟨r2,s2⟩:=rows3_at hB 2 (by omega) (by omega)
   obtain ⟨y,e2,y0,y3,_⟩:=pick_ev hb (p:=p+1) (by omega) (by omega) 3 (by omega)
   have y3:=y3 (by omega)
   have hm:=rd_mem [10,7,11] y y0 (by simpa using y3)
   simp only [List.mem_cons,List.not_mem_nil,or_false] at hm
   obtain ⟨r5,s5⟩:=rows3_at hB (rd [10,7,11] y) (by omega) (by omega)
   obtain ⟨M,q,hM,q0,qq,ml,ms⟩:=lines_j1 hb hB (L.length:Int) x (((L++rd_L10 B 3)++rd_L10 B 4)++rd_L10 B 2++rd_L10 B (rd [10,7,11] y)) (p+1+1) (by simp only [List.length_append];omega) (((hL.app s3).app s4).app s2 |>.app s5) (by omega) (by omega)
   refine ⟨M,q,Ev.step (fun k=>rfl) ?_,q0,by omega,ml,ms⟩
   simp only [spec_l20Lines.l0]
   exact Ev.ifn (by omega) (Ev.bindv eB (Ev.bind e1 (Ev.ifp c (Ev.ifp (by omega) (Ev.ifp (by omega) (Ev.bindv rfl (Ev.ifp (by omega) (Ev.ifp (by simp only [List.length_append];omega) (Ev.bindv rfl (Ev.ifp (by omega) (Ev.ifp (by simp only [List.length_append];omega) (Ev.bindv rfl (Ev.bindv rfl (Ev.bind e2 (Ev.ifp y0 (Ev.ifp (by simpa using y3) (Ev.ifp (by show 0≤rd [10,7,11] y;omega) (Ev.ifp (by show rd [10,7,11] y<(B.length:Int);omega) (Ev.ifp (by show (((L++rd_L10 B 3)++rd_L10 B 4)++rd_L10 B 2).length+(rd_L10 B (rd [10,7,11] y)).length<8796093022208;simp only [List.length_append];omega) hM)))))))))))))))))))
  ·obtain ⟨M,q,hM,q0,qq,ml,ms⟩:=lines_j1 hb hB (L.length:Int) x L (p+1) (by omega) hL (by omega) (by omega)
   refine ⟨M,q,Ev.step (fun k=>rfl) ?_,q0,by omega,ml,ms⟩
   simp only [spec_l20Lines.l0]
   exact Ev.ifn (by omega) (Ev.bindv eB (Ev.bind e1 (Ev.ifn c hM)))
 | n+1,L,p,hn,hl,hL,h0,h1=>by
  obtain ⟨x,e1,x0,x2,_⟩:=pick_ev hb h0 (by omega) 2 (by omega)
  have x2:=x2 (by omega)
  obtain ⟨m,rfl⟩:=Int.eq_ofNat_of_zero_le x0
  have ep:=plain_ev (m+1) (by omega)
  rw [show (((m+1:Nat)):Int)=wrap64 (1+((m:Nat):Int)) by rw [w64 (by omega) (by omega)];omega] at ep
  have hz:(ba (decDigits (m+1))).size≤5:=by rw [ba_size];exact decd_len (by omega)
  have e3:wrap64 (((n+1:Nat):Int) * 3)=((n+1:Nat):Int) * 3:=w64 (by omega) (by omega)
  have e4:wrap64 (x5+((n+1:Nat):Int) * 3)=x5+((n+1:Nat):Int) * 3:=w64 (by omega) (by omega)
  have hm:=tmod_nn (x:=x5+((n+1:Nat):Int) * 3) (by omega) (n:=(N.length:Int)) (by omega)
  have hx:=hNs _ (rdOf_mem ByteArray.empty N (Int.tmod (x5+((n+1:Nat):Int) * 3) (N.length:Int)) hm.1 hm.2)
  obtain ⟨M,q,hM,q0,qq,ml,ms⟩:=lines_l0 hb N hN hNs x5 h5 h5' n (L++[(((⟨#[97,116,32]⟩:ByteArray)++ba (decDigits (m+1)))++(⟨#[32]⟩:ByteArray))++(rdOf ByteArray.empty N (Int.tmod (x5+((n+1:Nat):Int) * 3) (N.length:Int)))]) (p+1) (by omega) (by simp;omega) (hL.app (by intro y hy;rw [List.mem_singleton.1 hy];simp only [ByteArray.size_append,sz3,sz1];omega)) (by omega) (by omega)
  refine ⟨M,q,Ev.step (fun k=>rfl) ?_,q0,by omega,ml,ms⟩
  simp only [spec_l20Lines.l0]
  refine Ev.ifp (by omega) (Ev.bind e1 (Ev.bind ep ?_))
  rw [e3,e4,wprev (by omega)]
  exact Ev.ifp (by omega) (Ev.ifp (by rw [ByteArray.size_append,sz3];omega) (Ev.ifn (by omega) (Ev.ifp hm.1 (Ev.ifp hm.2 (Ev.ifp (by simp only [ByteArray.size_append,sz3,sz1];omega) (Ev.ifp (by omega) hM))))))
theorem lines_ev {b:List Int} (hb:Code b) {p:Int} (h0:0≤p) (h1:p≤5000000):∃ M q,Ev (fun k=>spec_l20Lines.f k b p) (M,q)∧0≤q∧q≤p+400000∧M.length≤60∧Ls M:=by
 obtain ⟨x,e1,x0,x11,_⟩:=pick_ev hb h0 (by omega) 11 (by omega)
 have x11:=x11 (by omega)
 obtain ⟨y,e2,y0,y6,_⟩:=pick_ev hb (p:=p+1) (by omega) (by omega) 6 (by omega)
 have y6:=y6 (by omega)
 obtain ⟨n,rfl⟩:=Int.eq_ofNat_of_zero_le y0
 have key:∀ N:List ByteArray,(decide (N.length=11) && N.all fun x=>decide (x.size≤100))=true→N.length=11∧∀ x ∈ N,x.size≤100:=fun N h=>by
  rw [Bool.and_eq_true,decide_eq_true_eq] at h
  exact ⟨h.1,fun x hx=>by simpa using List.all_eq_true.1 h.2 x hx⟩
 have go:∀ N:List ByteArray,(decide (N.length=11) && N.all fun x=>decide (x.size≤100))=true→∃ M q,Ev (fun k=>(spec_l20Rd_pick.f k b p (N.length:Int)).bind fun bt473=>((spec_l20Rd_pick.f k b bt473.2 6).bind fun bt475=>(spec_l20Lines.l0 k (([]:List ByteArray)) N bt473.1 bt475.1 b bt475.2))) (M,q)∧0≤q∧q≤p+400000∧M.length≤60∧Ls M:=fun N h=>by
  obtain ⟨hN,hNs⟩:=key N h
  obtain ⟨M,q,hM,q0,qq,ml,ms⟩:=lines_l0 hb N hN hNs x x0 x11 n [] (p+1+1) (by omega) (by simp;omega) (fun _ h=>by cases h) (by omega) (by omega)
  have e3:Ev (fun k=>spec_l20Rd_pick.f k b p (N.length:Int)) (x,p+1):=by
   have h:(N.length:Int)=11:=by omega
   rw [h]
   exact e1
  exact ⟨M,q,Ev.bind e3 (Ev.bind e2 hM),q0,by omega,ml,ms⟩
 obtain ⟨M,q,hM,r⟩:=go _ (by decide:(decide (([(⟨#[110,97,116,32,49]⟩:ByteArray),(⟨#[97,112,112,32,51]⟩:ByteArray),(⟨#[109,101,109,32,50]⟩:ByteArray),(⟨#[101,32,50]⟩:ByteArray),(⟨#[112,32,50]⟩:ByteArray),(⟨#[108,101,110,32,50]⟩:ByteArray),(⟨#[111,32,49]⟩:ByteArray),(⟨#[113,32,49]⟩:ByteArray),(⟨#[114,32,49]⟩:ByteArray),(⟨#[104,32,50]⟩:ByteArray),(⟨#[109,97,120,32,51]⟩:ByteArray)]:List ByteArray).length=11) && _)=true)
 exact ⟨M,q,by unfold spec_l20Lines.f;exact Ev.bindv rfl hM,r⟩
theorem place_any (s:ByteArray) (hs:s.size≤1048576):∃ v,Ev (fun k=>spec_l3ReadPlace.f k s) v:=by
 obtain ⟨t,ht,_⟩:=words_any s (by omega)
 have bad:Ev (fun k=>spec_l3ReadPlace.j0 k t true) ((⟨#[]⟩:ByteArray),0,0,false):=by
  refine Ev.step (fun k=>rfl) ?_
  simp only [spec_l3ReadPlace.j0]
  exact Ev.ifp (by simp) (Ev.now _)
 by_cases h4:(t.length:Int)=4
 case neg=>exact ⟨_,by unfold spec_l3ReadPlace.f;exact Ev.bind ht (Ev.ifn h4 bad)⟩
 by_cases hw:(rdOf ByteArray.empty t 0).toList=([97,116]:List UInt8)
 case neg=>exact ⟨_,by unfold spec_l3ReadPlace.f;exact Ev.bind ht (Ev.ifp h4 (Ev.ifp (by omega) (Ev.ifn hw bad)))⟩
 by_cases h1:((rdOf ByteArray.empty t 1).size:Int)=1
 case neg=>exact ⟨_,by unfold spec_l3ReadPlace.f;exact Ev.bind ht (Ev.ifp h4 (Ev.ifp (by omega) (Ev.ifp hw (Ev.ifp (by omega) (Ev.ifn h1 bad)))))⟩
 by_cases h3:((rdOf ByteArray.empty t 3).size:Int)=1
 ·have hp:=splace_ev ⟨rdOf ByteArray.empty t 2,wrap64 ((wrap64 (bt (rdOf ByteArray.empty t 3) 0)) - 48),wrap64 ((wrap64 (bt (rdOf ByteArray.empty t 1) 0)) - 48)⟩
  have good:∃ v,Ev (fun k=>spec_l3ReadPlace.j0 k t false) v:=by
   refine ⟨(rdOf ByteArray.empty t 2,wrap64 ((wrap64 (bt (rdOf ByteArray.empty t 3) 0)) - 48),wrap64 ((wrap64 (bt (rdOf ByteArray.empty t 1) 0)) - 48),placeOk ⟨rdOf ByteArray.empty t 2,wrap64 ((wrap64 (bt (rdOf ByteArray.empty t 3) 0)) - 48),wrap64 ((wrap64 (bt (rdOf ByteArray.empty t 1) 0)) - 48)⟩),Ev.step (fun k=>rfl) ?_⟩
   simp only [spec_l3ReadPlace.j0]
   exact Ev.ifn (by simp) (Ev.ifp (by omega) (Ev.ifp (by omega) (Ev.ifp (by omega) (Ev.ifp (by omega) (Ev.ifp (by omega) (Ev.bind hp (Ev.now _)))))))
  obtain ⟨v,hv⟩:=good
  refine ⟨v,?_⟩
  unfold spec_l3ReadPlace.f
  refine Ev.bind ht (Ev.ifp h4 (Ev.ifp (by omega) (Ev.ifp hw (Ev.ifp (by omega) (Ev.ifp h1 (Ev.ifp (by omega) ?_))))))
  rw [show (((rdOf ByteArray.empty t 3).size:Int) != 1)=false from bne_eq_false_iff_eq.2 h3]
  exact hv
 ·refine ⟨((⟨#[]⟩:ByteArray),0,0,false),?_⟩
  unfold spec_l3ReadPlace.f
  refine Ev.bind ht (Ev.ifp h4 (Ev.ifp (by omega) (Ev.ifp hw (Ev.ifp (by omega) (Ev.ifp h1 (Ev.ifp (by omega) ?_))))))
  rw [show (((rdOf ByteArray.empty t 3).size:Int) != 1)=true from bne_iff_ne.2 h3]
  exact bad
def SmCs (n:Nat) (cs:List Clause):Prop:=cs.length≤n∧∀ c ∈ cs,SmC c
theorem SmCs.snoc {n:Nat} {cs:List Clause} (h:SmCs n cs) {c:Clause} (hc:SmC c):SmCs (n+1) (cs++[c]):=by
 refine ⟨by rw [snoc_len];have:=h.1;omega,fun x hx=>?_⟩
 rcases List.mem_append.1 hx with hx|hx
 ·exact h.2 x hx
 ·rw [List.mem_singleton.1 hx];exact hc
theorem parse_loop:∀ (r a:List ByteArray) (cs:List Clause) (ps:List Cat.Place),Ls r→a.length+r.length≤1000→SmCs a.length cs→ps.length≤a.length→∃ ds qs n,Ev (fun k=>spec_PrgParse.l0 k (a++r) ((a.length:Nat):Int) cs ps) (ds,qs,n)∧SmCs 1000 ds∧qs.length≤1000
 | [],a,cs,ps,hs,hl,hc,hp=>by
  refine ⟨cs,ps,0,Ev.step (fun k=>rfl) ?_,⟨by have:=hc.1;omega,hc.2⟩,by omega⟩
  simp only [spec_PrgParse.l0]
  exact Ev.ifn (not_lt_app a) (Ev.now _)
 | x :: r,a,cs,ps,hs,hl,hc,hp=>by
  rw [List.length_cons] at hl
  have hx:=hs x (by simp)
  have hcl:=hc.1
  obtain ⟨⟨v0,v1,v2,ok⟩,hv⟩:=place_any x (by omega)
  have none_:SmCs 1000 []∧([]:List Cat.Place).length≤1000:=⟨⟨by simp,fun _ h=>by cases h⟩,by simp⟩
  have J2:∀ (ds:List Clause) (qs:List Cat.Place),SmCs (a.length+1) ds→qs.length≤a.length+1→∃ es ts n,Ev (fun k=>spec_PrgParse.j2 k (a++x :: r) ((a.length:Nat):Int) ds qs) (es,ts,n)∧SmCs 1000 es∧ts.length≤1000:=fun ds qs hd hq=>by
   have hdl:=hd.1
   have e:=sprog_ev ⟨ds,qs⟩ ⟨by show ds.length≤1048576;omega,by show qs.length≤1048576;omega,hd.2⟩
   by_cases hok:progOk ⟨ds,qs⟩=true
   ·obtain ⟨es,ts,n,h,hh⟩:=parse_loop r (a++[x]) ds qs (fun y hy=>hs y (by simp [hy])) (by rw [snoc_len];omega) (by rw [snoc_len];exact hd) (by rw [snoc_len];exact hq)
    rw [snoc_len,List.append_assoc,List.singleton_append] at h
    refine ⟨es,ts,n,Ev.step (fun k=>rfl) ?_,hh⟩
    simp only [spec_PrgParse.j2]
    refine Ev.bind e (Ev.ifp hok ?_)
    rw [wnext (by omega)]
    exact h
   ·refine ⟨[],[],wrap64 (((a.length:Nat):Int)+1),Ev.step (fun k=>rfl) ?_,none_⟩
    simp only [spec_PrgParse.j2]
    exact Ev.bind e (Ev.ifn hok (Ev.now _))
  have J1:∀ o:Bool,∃ es ts n,Ev (fun k=>spec_PrgParse.j1 k (a++x :: r) ((a.length:Nat):Int) o cs ps v0 v1 v2) (es,ts,n)∧SmCs 1000 es∧ts.length≤1000:=fun o=>by
   cases o with
   | true=>
    obtain ⟨es,ts,n,h,hh⟩:=J2 cs (ps++[⟨v0,v1,v2⟩]) ⟨by omega,hc.2⟩ (by rw [snoc_len];omega)
    refine ⟨es,ts,n,Ev.step (fun k=>rfl) ?_,hh⟩
    simp only [spec_PrgParse.j1]
    exact Ev.ifp (by simp) (Ev.ifp (by omega) h)
   | false=>
    obtain ⟨⟨w1,w2,wk⟩,e,c1,c2,c3⟩:=pr_any x (by omega)
    replace c1:w1.length≤40:=c1
    replace c2:w2.length≤6:=c2
    cases wk with
    | true=>
     obtain ⟨es,ts,n,h,hh⟩:=J2 (cs++[⟨w1,w2⟩]) ps (hc.snoc ⟨by show w1.length≤1048576;omega,by show w2.length≤1048576;omega,fun g hg=>by obtain ⟨g1,g2,g3⟩:=c3 g hg;exact ⟨by omega,by omega,by omega⟩⟩) (by omega)
     refine ⟨es,ts,n,Ev.step (fun k=>rfl) ?_,hh⟩
     simp only [spec_PrgParse.j1]
     refine Ev.ifn (by simp) (Ev.ifp (by omega) (Ev.ifp (lt_app a r x) ?_))
     rw [rdS]
     exact Ev.bind e (Ev.ifp rfl (Ev.ifp (by omega) h))
    | false=>
     refine ⟨[],[],wrap64 (((a.length:Nat):Int)+1),Ev.step (fun k=>rfl) ?_,none_⟩
     simp only [spec_PrgParse.j1]
     refine Ev.ifn (by simp) (Ev.ifp (by omega) (Ev.ifp (lt_app a r x) ?_))
     rw [rdS]
     exact Ev.bind e (Ev.ifn (by simp) (Ev.now _))
  cases ok with
  | true=>
   obtain ⟨es,ts,n,h,hh⟩:=J1 ((cs.length:Int) == 0)
   refine ⟨es,ts,n,Ev.step (fun k=>rfl) ?_,hh⟩
   simp only [spec_PrgParse.l0]
   refine Ev.ifp (lt_app a r x) (Ev.ifp (by omega) ?_)
   rw [rdS]
   exact Ev.bind hv (Ev.ifp rfl h)
  | false=>
   obtain ⟨es,ts,n,h,hh⟩:=J1 false
   refine ⟨es,ts,n,Ev.step (fun k=>rfl) ?_,hh⟩
   simp only [spec_PrgParse.l0]
   refine Ev.ifp (lt_app a r x) (Ev.ifp (by omega) ?_)
   rw [rdS]
   exact Ev.bind hv (Ev.ifn (by simp) h)
def SmR (r:List Clause × List Cat.Place × Int) (p d:Int):Prop:=SmCs 2000 r.1∧r.2.1.length≤2000∧0≤r.2.2∧r.2.2≤p+d
theorem prog_ev {b:List Int} (hb:Code b) {p:Int} (h0:0≤p) (h1:p≤1000000):∃ cs ps q,Ev (fun k=>spec_l20Prog.f k b p) (cs,ps,q)∧SmCs 1000 cs∧ps.length≤1000∧0≤q∧q≤p+400000:=by
 obtain ⟨M,q,hM,q0,q1,ml,ms⟩:=lines_ev hb h0 (by omega)
 obtain ⟨cs,ps,n,h,hc,hp⟩:=parse_loop M [] [] [] ms (by simp;omega) ⟨by simp,fun _ h=>by cases h⟩ (by simp)
 exact ⟨cs,ps,q,by unfold spec_l20Prog.f spec_PrgParse.f;exact Ev.bind hM (Ev.bind h (Ev.now _)),hc,hp,q0,q1⟩
theorem fillC {b:List Int} (p:Int) (ps:List Cat.Place):∀ (n:Nat) (cs:List Clause),13 - cs.length≤n→SmCs 1500 cs→∃ ds,Ev (fun k=>spec_l20ProgOr.l0 k b p cs ps) (ds,ps,p)∧SmCs 2000 ds:=by
 intro n
 induction n with
 | zero=>
  intro cs hn hc
  refine ⟨cs,Ev.step (fun k=>rfl) ?_,by have:=hc.1;omega,hc.2⟩
  simp only [spec_l20ProgOr.l0]
  exact Ev.ifn (by omega) (Ev.now _)
 | succ n ih=>
  intro cs hn hc
  have hcl:=hc.1
  by_cases hle:(cs.length:Int)≤12
  ·have hs:=hc.snoc (c:=⟨[(⟨3,0,(⟨#[97]⟩:ByteArray)⟩:Cell)],[]⟩) ⟨by simp,by simp,fun _ h=>by cases h⟩
   obtain ⟨ds,h,hd⟩:=ih (cs++[⟨[(⟨3,0,(⟨#[97]⟩:ByteArray)⟩:Cell)],[]⟩]) (by rw [snoc_len];omega) ⟨by rw [snoc_len];omega,hs.2⟩
   refine ⟨ds,Ev.step (fun k=>rfl) ?_,hd⟩
   simp only [spec_l20ProgOr.l0]
   exact Ev.ifp hle (Ev.ifp (by omega) h)
  ·refine ⟨cs,Ev.step (fun k=>rfl) ?_,by omega,hc.2⟩
   simp only [spec_l20ProgOr.l0]
   exact Ev.ifn hle (Ev.now _)
theorem progOr_ev {b:List Int} (hb:Code b) (n:Int) (hn:n≤100000) {p:Int} (h0:0≤p) (h1:p≤1000000):∃ r,Ev (fun k=>spec_l20ProgOr.f k b p n) r∧SmR r p 500000:=by
 obtain ⟨cs,ps,q,e0,hc,hp,q0,q1⟩:=prog_ev hb h0 h1
 have hcl:=hc.1
 have up:∀ {ds:List Clause},SmCs 1001 ds→SmCs 2000 ds:=fun h=>⟨by have:=h.1;omega,h.2⟩
 obtain ⟨o,ho⟩:=odd_ev hb q0 (by omega) n (by omega)
 cases o with
 | false=>exact ⟨(cs,ps,q+1),by unfold spec_l20ProgOr.f;exact Ev.bind e0 (Ev.bind ho (Ev.ifn (by simp) (Ev.now _))),⟨by show cs.length≤2000;omega,hc.2⟩,by show ps.length≤2000;omega,by show 0≤q+1;omega,by show q+1≤_;omega⟩
 | true=>
  obtain ⟨c,e1,c0,c6,_⟩:=pick_ev hb (p:=q+1) (by omega) (by omega) 6 (by omega)
  by_cases k0:c=0
  ·obtain ⟨t,q2,f1,g1,g2,t0,t1,ts⟩:=term_ev hb (p:=q+1+1) (by omega) (by omega) 5 3 (by omega) (by omega)
   obtain ⟨u,q3,f2,g3,g4,us⟩:=spoil_ev hb (p:=q2) g1 (by omega) t t0 t1 ts
   have ul:=us.1
   exact ⟨(cs++[⟨u,[]⟩],ps,q3),by unfold spec_l20ProgOr.f;exact Ev.bind e0 (Ev.bind ho (Ev.ifp rfl (Ev.bind e1 (Ev.ifp k0 (Ev.bind f1 (Ev.bind f2 (Ev.ifp (by show cs.length<2932031007402;omega) (Ev.now _)))))))),up (hc.snoc ⟨by show u.length≤1048576;omega,by simp,fun _ h=>by cases h⟩),by show ps.length≤2000;omega,g3,by show q3≤_;omega⟩
  by_cases k1:c=1
  ·exact ⟨(cs++[⟨[(⟨1,0,(⟨#[]⟩:ByteArray)⟩:Cell)],[]⟩],ps,q+1+1),by unfold spec_l20ProgOr.f;exact Ev.bind e0 (Ev.bind ho (Ev.ifp rfl (Ev.bind e1 (Ev.ifn k0 (Ev.ifp k1 (Ev.ifp (by show cs.length<2932031007402;omega) (Ev.now _))))))),up (hc.snoc ⟨by simp,by simp,fun _ h=>by cases h⟩),by show ps.length≤2000;omega,by show 0≤q+1+1;omega,by show q+1+1≤_;omega⟩
  by_cases k2:c=2
  ·obtain ⟨u,e2,u0,u2,_⟩:=pick_ev hb (p:=q+1+1) (by omega) (by omega) 2 (by omega)
   obtain ⟨v,e3,v0,v3,_⟩:=pick_ev hb (p:=q+1+1+1) (by omega) (by omega) 3 (by omega)
   have u2:=u2 (by omega)
   have v3:=v3 (by omega)
   exact ⟨(cs,ps++[⟨(⟨#[101]⟩:ByteArray),rd [4,2] u,rd [0,3,1] v⟩],q+1+1+1+1),by unfold spec_l20ProgOr.f;exact Ev.bind e0 (Ev.bind ho (Ev.ifp rfl (Ev.bind e1 (Ev.ifn k0 (Ev.ifn k1 (Ev.ifp k2 (Ev.bindv rfl (Ev.bind e2 (Ev.ifp u0 (Ev.ifp (by simpa using u2) (Ev.bindv rfl (Ev.bind e3 (Ev.ifp v0 (Ev.ifp (by simpa using v3) (Ev.ifp (by show ps.length<4398046511104;omega) (Ev.now _)))))))))))))))),⟨by show cs.length≤2000;omega,hc.2⟩,by show (ps++[_]).length≤2000;rw [snoc_len];omega,by show 0≤q+1+1+1+1;omega,by show q+1+1+1+1≤_;omega⟩
  by_cases k3:c=3
  ·obtain ⟨ds,e2,hd⟩:=fillC (b:=b) (q+1+1) ps 13 cs (by omega) ⟨by omega,hc.2⟩
   exact ⟨(ds,ps,q+1+1),by unfold spec_l20ProgOr.f;exact Ev.bind e0 (Ev.bind ho (Ev.ifp rfl (Ev.bind e1 (Ev.ifn k0 (Ev.ifn k1 (Ev.ifn k2 (Ev.ifp k3 e2))))))),hd,by show ps.length≤2000;omega,by show 0≤q+1+1;omega,by show q+1+1≤_;omega⟩
  by_cases k4:c=4
  ·obtain ⟨⟨r0,r1,r2,r3,r4⟩,e2,hr,hr2⟩:=goalOr_ev hb 1 (by omega) (p:=q+1+1) (by omega) (by omega)
   obtain ⟨m1,m2,m3,m4⟩:=hr
   replace m1:r1.length≤41:=m1
   replace m2:r2.length≤41:=m2
   replace m3:r3.length≤41:=m3
   replace m4:0≤r4:=m4
   replace hr2:r4≤q+1+1+5000:=hr2
   exact ⟨(cs++[⟨[(⟨3,0,(⟨#[97]⟩:ByteArray)⟩:Cell)],[⟨r0,r1,r2,r3⟩]⟩],ps,r4),by unfold spec_l20ProgOr.f;exact Ev.bind e0 (Ev.bind ho (Ev.ifp rfl (Ev.bind e1 (Ev.ifn k0 (Ev.ifn k1 (Ev.ifn k2 (Ev.ifn k3 (Ev.ifp k4 (Ev.bind e2 (Ev.ifp (by show cs.length<2932031007402;omega) (Ev.now _))))))))))),up (hc.snoc ⟨by simp,by simp,fun g hg=>by rw [List.mem_singleton.1 hg];exact ⟨by show r1.length≤1048576;omega,by show r2.length≤1048576;omega,by show r3.length≤1048576;omega⟩⟩),by show ps.length≤2000;omega,m4,by show r4≤_;omega⟩
  ·exact ⟨(cs++[⟨[(⟨3,1,(⟨#[97]⟩:ByteArray)⟩:Cell),(⟨1,8,(⟨#[]⟩:ByteArray)⟩:Cell)],[]⟩],ps,q+1+1),by unfold spec_l20ProgOr.f;exact Ev.bind e0 (Ev.bind ho (Ev.ifp rfl (Ev.bind e1 (Ev.ifn k0 (Ev.ifn k1 (Ev.ifn k2 (Ev.ifn k3 (Ev.ifn k4 (Ev.ifp (by show cs.length<2932031007402;omega) (Ev.now _)))))))))),up (hc.snoc ⟨by simp,by simp,fun _ h=>by cases h⟩),by show ps.length≤2000;omega,by show 0≤q+1+1;omega,by show q+1+1≤_;omega⟩
end Go.Proofs.YtlhniagacegbeaaDoor.Pu
