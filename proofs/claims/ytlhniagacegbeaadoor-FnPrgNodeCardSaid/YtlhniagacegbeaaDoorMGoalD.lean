/- The draws of goals: each ends, whatever the code; what is drawn is small. -/
import Derived.Test.YtlhniagacegbeaaDoorMDraw
import Derived.Test.YtlhniagacegbeaaDoorMMakeS
import Derived.Test.YtlhniagacegbeaaDoorP8
import Derived.Test.YtlhniagacegbeaaDoorP10
namespace Go.Proofs.YtlhniagacegbeaaDoor.Pu
open Go.RowKit Go.Proofs.YtlhniagacegbeaaDoor.Cat Go.Proofs.YtlhniagacegbeaaDoor.P Go.Proofs.YtlhniagacegbeaaDoorW.PrintWords
set_option linter.unusedVariables false
set_option linter.unusedSimpArgs false
theorem head_ev {b:List Int} (hb:Code b) {p:Int} (h0:0≤p) (h1:p≤90000000):∃ l q,Ev (fun k=>spec_l20Head.f k b p) (l,q)∧0≤q∧q≤p+500∧l.length≤41:=by
 obtain ⟨x,hx,x0,x3,_⟩:=pick_ev hb h0 (by omega) 3 (by omega)
 have x3:=x3 (by omega)
 obtain ⟨t1,q1,e1,a1,b1,_⟩:=term_ev hb (p:=p+1) (by omega) (by omega) 4 3 (by omega) (by omega)
 obtain ⟨t2,q2,e2,a2,b2,_⟩:=term_ev hb (p:=q1) a1 (by omega) 4 3 (by omega) (by omega)
 have hl:=makeOf_len (rdOf ByteArray.empty [(⟨#[101]⟩:ByteArray),⟨#[112]⟩,⟨#[104]⟩] x) [t1,t2]
 refine ⟨_,q2,?_,a2,by omega,(by omega:(makeOf (rdOf ByteArray.empty [(⟨#[101]⟩:ByteArray),⟨#[112]⟩,⟨#[104]⟩] x) [t1,t2]).length≤41)⟩
 unfold spec_l20Head.f
 exact Ev.bindv rfl (Ev.bind hx (Ev.ifp x0 (Ev.ifp (by simpa using x3) (Ev.bind e1 (Ev.bind e2 (Ev.bind (smake_ev _ [t1,t2] (by simp)) (Ev.now _)))))))
def SmG (r:Int × List Cell × List Cell × List Cell × Int):Prop:=r.2.1.length≤41∧r.2.2.1.length≤41∧r.2.2.2.1.length≤41∧0≤r.2.2.2.2
theorem goalOr1_ev {b:List Int} (hb:Code b) (n:Int) (hn:n≤100000) {p:Int} (h0:0≤p) (h1:p≤80000000) (g:Int) (x y z:List Cell) (hx:x.length≤41) (hy:y.length≤41) (hz:z.length≤41) :
  ∃ r,Ev (fun k=>spec_l20GoalOr.j1 k n b p g x y z) r∧SmG r∧r.2.2.2.2≤p+1000:=by
 obtain ⟨o,ho⟩:=odd_ev hb h0 (by omega) n (by omega)
 cases o with
 | false=>
  refine ⟨(g,x,y,z,p+1),Ev.step (fun k=>rfl) ?_,⟨hx,hy,hz,by show 0≤p+1;omega⟩,by show p+1≤_;omega⟩
  simp only [spec_l20GoalOr.j1]
  exact Ev.bind ho (Ev.ifn (by simp) (Ev.now _))
 | true=>
  obtain ⟨c,hc,c0,c5,_⟩:=pick_ev hb (p:=p+1) (by omega) (by omega) 5 (by omega)
  have c5:=c5 (by omega)
  by_cases k0:c=0
  ·obtain ⟨u,hu,u0,u5,_⟩:=pick_ev hb (p:=p+1+1) (by omega) (by omega) 5 (by omega)
   have u5:=u5 (by omega)
   obtain ⟨v,hv,v0,v4,_⟩:=pick_ev hb (p:=p+1+1+1) (by omega) (by omega) 4 (by omega)
   have v4:=v4 (by omega)
   refine ⟨(rd [0,6,7,wrap64 (1+u)] v,x,y,z,p+1+1+1+1),Ev.step (fun k=>rfl) ?_,⟨hx,hy,hz,by show 0≤p+1+1+1+1;omega⟩,by show p+1+1+1+1≤_;omega⟩
   simp only [spec_l20GoalOr.j1]
   exact Ev.bind ho (Ev.ifp rfl (Ev.bind hc (Ev.ifp k0 (Ev.bind hu (Ev.bindv rfl (Ev.bind hv (Ev.ifp v0 (Ev.ifp (by simpa using v4) (Ev.now _)))))))))
  by_cases k1:c=1
  ·obtain ⟨t,q,ht,q0,q1,ts⟩:=termOr_ev hb (p:=p+1+1) (by omega) (by omega) 1 (by omega)
   refine ⟨(g,t,y,z,q),Ev.step (fun k=>rfl) ?_,⟨ts.1,hy,hz,q0⟩,by show q≤_;omega⟩
   simp only [spec_l20GoalOr.j1]
   exact Ev.bind ho (Ev.ifp rfl (Ev.bind hc (Ev.ifn k0 (Ev.ifp k1 (Ev.bind ht (Ev.now _))))))
  by_cases k2:c=2
  ·refine ⟨(g,x,[⟨1,8,⟨#[]⟩⟩],z,p+1+1),Ev.step (fun k=>rfl) ?_,⟨hx,by simp,hz,by show 0≤p+1+1;omega⟩,by show p+1+1≤_;omega⟩
   simp only [spec_l20GoalOr.j1]
   exact Ev.bind ho (Ev.ifp rfl (Ev.bind hc (Ev.ifn k0 (Ev.ifn k1 (Ev.ifp k2 (Ev.now _))))))
  by_cases k3:c=3
  ·refine ⟨(g,x,y,[⟨2,0,⟨#[]⟩⟩],p+1+1),Ev.step (fun k=>rfl) ?_,⟨hx,hy,by simp,by show 0≤p+1+1;omega⟩,by show p+1+1≤_;omega⟩
   simp only [spec_l20GoalOr.j1]
   exact Ev.bind ho (Ev.ifp rfl (Ev.bind hc (Ev.ifn k0 (Ev.ifn k1 (Ev.ifn k2 (Ev.ifp k3 (Ev.now _)))))))
  ·refine ⟨(g,[⟨2,3,⟨#[]⟩⟩],y,z,p+1+1),Ev.step (fun k=>rfl) ?_,⟨by simp,hy,hz,by show 0≤p+1+1;omega⟩,by show p+1+1≤_;omega⟩
   simp only [spec_l20GoalOr.j1]
   exact Ev.bind ho (Ev.ifp rfl (Ev.bind hc (Ev.ifn k0 (Ev.ifn k1 (Ev.ifn k2 (Ev.ifn k3 (Ev.now _)))))))
theorem goalOr0_ev {b:List Int} (hb:Code b) (n:Int) (hn:n≤100000) {p:Int} (h0:0≤p) (h1:p≤70000000) (g v:Int) (o:Bool) :
  ∃ r,Ev (fun k=>spec_l20GoalOr.j0 k n v o b p g) r∧SmG r∧r.2.2.2.2≤p+3000:=by
 by_cases ho:o=true
 ·obtain ⟨t1,q1,e1,a1,b1,_,l1,_⟩:=term_ev hb h0 (by omega) 6 5 (by omega) (by omega)
  obtain ⟨t2,q2,e2,a2,b2,_,l2,_⟩:=term_ev hb (p:=q1) a1 (by omega) 6 5 (by omega) (by omega)
  obtain ⟨r,hr,sr,br⟩:=goalOr1_ev hb n hn (p:=q2) a2 (by omega) g t1 t2 [] (by omega) (by omega) (by simp)
  refine ⟨r,Ev.step (fun k=>rfl) ?_,sr,by omega⟩
  simp only [spec_l20GoalOr.j0]
  exact Ev.ifp ho (Ev.bind e1 (Ev.bind e2 hr))
 by_cases hv:v=5
 ·obtain ⟨t1,q1,e1,a1,b1,_,l1,_⟩:=term_ev hb h0 (by omega) 3 5 (by omega) (by omega)
  obtain ⟨t2,q2,e2,a2,b2,_,l2,_⟩:=term_ev hb (p:=q1) a1 (by omega) 3 5 (by omega) (by omega)
  obtain ⟨t3,q3,e3,a3,b3,_,l3,_⟩:=term_ev hb (p:=q2) a2 (by omega) 3 5 (by omega) (by omega)
  obtain ⟨r,hr,sr,br⟩:=goalOr1_ev hb n hn (p:=q3) a3 (by omega) g t1 t2 t3 (by omega) (by omega) (by omega)
  refine ⟨r,Ev.step (fun k=>rfl) ?_,sr,by omega⟩
  simp only [spec_l20GoalOr.j0]
  exact Ev.ifn ho (Ev.ifp hv (Ev.bind e1 (Ev.bind e2 (Ev.bind e3 hr))))
 ·obtain ⟨r,hr,sr,br⟩:=goalOr1_ev hb n hn (p:=p) h0 (by omega) g [] [] [] (by simp) (by simp) (by simp)
  refine ⟨r,Ev.step (fun k=>rfl) ?_,sr,by omega⟩
  simp only [spec_l20GoalOr.j0]
  exact Ev.ifn ho (Ev.ifn hv hr)
theorem goalOr_ev {b:List Int} (hb:Code b) (n:Int) (hn:n≤100000) {p:Int} (h0:0≤p) (h1:p≤60000000):∃ r,Ev (fun k=>spec_l20GoalOr.f k b p n) r∧SmG r∧r.2.2.2.2≤p+5000:=by
 obtain ⟨x,hx,x0,x5,_⟩:=pick_ev hb h0 (by omega) 5 (by omega)
 have x5:=x5 (by omega)
 unfold spec_l20GoalOr.f
 by_cases k1:wrap64 (1+x)=1
 ·obtain ⟨l,q,hl,q0,q1,ll⟩:=head_ev hb (p:=p+1) (by omega) (by omega)
  obtain ⟨r,hr,sr,br⟩:=goalOr1_ev hb n hn (p:=q) q0 (by omega) (wrap64 (1+x)) l [] [] ll (by simp) (by simp)
  exact ⟨r,Ev.bind hx (Ev.ifp k1 (Ev.bind hl hr)),sr,by omega⟩
 by_cases k2:wrap64 (1+x)=2
 ·obtain ⟨r,hr,sr,br⟩:=goalOr0_ev hb n hn (p:=p+1) (by omega) (by omega) (wrap64 (1+x)) (wrap64 (1+x)) (wrap64 (1+x) == 2)
  exact ⟨r,Ev.bind hx (Ev.ifn k1 (Ev.ifp k2 hr)),sr,by omega⟩
 ·obtain ⟨r,hr,sr,br⟩:=goalOr0_ev hb n hn (p:=p+1) (by omega) (by omega) (wrap64 (1+x)) (wrap64 (1+x)) (wrap64 (1+x) == 4)
  exact ⟨r,Ev.bind hx (Ev.ifn k1 (Ev.ifn k2 hr)),sr,by omega⟩
end Go.Proofs.YtlhniagacegbeaaDoor.Pu
