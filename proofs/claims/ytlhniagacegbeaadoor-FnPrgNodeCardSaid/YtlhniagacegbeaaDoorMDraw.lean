/- The laws' draws: each ends, whatever the code; what is drawn is small. -/
import Derived.Test.YtlhniagacegbeaaDoorMBase
import Derived.Test.YtlhniagacegbeaaDoorP9
import Derived.Test.YtlhniagacegbeaaDoorP8
import Derived.Test.YtlhniagacegbeaaDoorP8
import Derived.Test.YtlhniagacegbeaaDoorP9
import Derived.Test.YtlhniagacegbeaaDoorP8
import Derived.Test.YtlhniagacegbeaaDoorP9
namespace Go.Proofs.YtlhniagacegbeaaDoor.Pu
open Go.RowKit Go.Proofs.YtlhniagacegbeaaDoor.Cat Go.Proofs.YtlhniagacegbeaaDoor.P Go.Proofs.YtlhniagacegbeaaDoorW.PrintWords
set_option linter.unusedVariables false
set_option linter.unusedSimpArgs false
theorem xor_nn (a b:Nat) (ha:a<9223372036854775808) (hb:b<9223372036854775808):bits .xor .i64 (a:Int) (b:Int)=((a ^^^ b:Nat):Int):=by
 show IntKind.i64.wrap ((BitVec.ofInt 64 (a:Int) ^^^ BitVec.ofInt 64 (b:Int)).toNat:Int)=_
 have h1:(BitVec.ofInt 64 (a:Int)).toNat=a:=by rw [BitVec.ofInt_natCast,BitVec.toNat_ofNat];exact Nat.mod_eq_of_lt (by omega)
 have h2:(BitVec.ofInt 64 (b:Int)).toNat=b:=by rw [BitVec.ofInt_natCast,BitVec.toNat_ofNat];exact Nat.mod_eq_of_lt (by omega)
 have h3:a ^^^ b<2 ^ 63:=Nat.xor_lt_two_pow (by omega) (by omega)
 rw [BitVec.toNat_xor,h1,h2,IntKind.wrap_i64]
 omega
theorem xor_nn' {x y:Int} (hx:0≤x) (hx':x≤9223372036854775807) (hy:0≤y) (hy':y≤9223372036854775807):0≤bits .xor .i64 x y:=by
 obtain ⟨a,rfl⟩:=Int.eq_ofNat_of_zero_le hx
 obtain ⟨b,rfl⟩:=Int.eq_ofNat_of_zero_le hy
 have:=xor_nn a b (by omega) (by omega)
 rw [this]
 omega
def Code (b:List Int):Prop:=(∀ x ∈ b,0≤x∧x≤255)∧b.length≤2000
theorem rd_byte {b:List Int} (h:Code b) (i:Int):0≤rd b i∧rd b i≤255:=by
 unfold rd
 by_cases hi:i.toNat<b.length
 ·simp only [List.getD_eq_getElem?_getD,List.getElem?_eq_getElem hi,Option.getD_some]
  exact h.1 _ (List.getElem_mem hi)
 ·simp only [List.getD_eq_getElem?_getD,List.getElem?_eq_none (by omega:b.length≤i.toNat),Option.getD_none]
  omega
theorem tmod_nn {x n:Int} (hx:0≤x) (hn:1≤n):0≤Int.tmod x n∧Int.tmod x n<n:=⟨Int.tmod_nonneg _ hx,Int.tmod_lt_of_pos _ (by omega)⟩
theorem pick_ev {b:List Int} (hb:Code b) {p:Int} (h0:0≤p) (h1:p≤1000000000000) (n:Int) (hn:n≤2147483648) :
  ∃ x,Ev (fun k=>spec_l20Rd_pick.f k b p n) (x,p+1)∧0≤x∧(1≤n→x<n)∧(x<1∨x<n):=by
 have e1:wrap64 (p+1)=p+1:=w64 (by omega) (by omega)
 have e2:wrap64 (p+1 - 1)=p:=by rw [w64 (by omega) (by omega)];omega
 unfold spec_l20Rd_pick.f
 rw [e1]
 by_cases hn1:n<1
 ·refine ⟨0,Ev.ifp hn1 (Ev.step (fun k=>rfl) ?_),by omega,by omega,by omega⟩
  simp only [spec_l20Rd_pick.j0]
  exact Ev.ifp (by simp) (Ev.now _)
 by_cases hz:b.length=0
 ·refine ⟨0,Ev.ifn hn1 (Ev.step (fun k=>rfl) ?_),by omega,by omega,by omega⟩
  simp only [spec_l20Rd_pick.j0]
  refine Ev.ifp ?_ (Ev.now _)
  rw [hz];rfl
 have hz0:((b.length:Int) == 0)=false:=beq_eq_false_iff_ne.2 (by omega)
 by_cases hl:p<(b.length:Int)
 ·obtain ⟨g0,g1⟩:=rd_byte hb p
  have t:=tmod_nn g0 (n:=n) (by omega)
  refine ⟨Int.tmod (rd b p) n,Ev.ifn hn1 (Ev.step (fun k=>rfl) ?_),t.1,fun _=>t.2,.inr t.2⟩
  simp only [spec_l20Rd_pick.j0]
  rw [hz0,e2]
  refine Ev.ifn (by simp) (Ev.ifp hl (Ev.ifp h0 (Ev.ifn (by omega) ?_)))
  rw [w64 (x:=rd b p) (by omega) (by omega)]
  exact Ev.now _
 ·have hlen:=hb.2
  have m1:=tmod_nn h0 (n:=(b.length:Int)) (by omega)
  have e3:wrap64 (p * 7)=p * 7:=w64 (by omega) (by omega)
  have e4:wrap64 (p * 7+3)=p * 7+3:=w64 (by omega) (by omega)
  have m2:=tmod_nn (x:=p * 7+3) (by omega) (n:=(b.length:Int)) (by omega)
  obtain ⟨u0,u1⟩:=rd_byte hb (Int.tmod p b.length)
  obtain ⟨v0,v1⟩:=rd_byte hb (Int.tmod (p * 7+3) b.length)
  have d0:0≤Int.tdiv p b.length∧Int.tdiv p b.length≤p:=by
   rw [Int.tdiv_eq_ediv_of_nonneg h0]
   exact ⟨Int.ediv_nonneg h0 (by omega),Int.ediv_le_self _ h0⟩
  generalize hu:rd b (Int.tmod p b.length)=u at u0 u1
  generalize hv:rd b (Int.tmod (p * 7+3) b.length)=v at v0 v1
  generalize hd:Int.tdiv p b.length=d at d0
  have q0:0≤Int.tdiv (u * 131+v * 1117+p * 29+d * 53) 64∧Int.tdiv (u * 131+v * 1117+p * 29+d * 53) 64≤u * 131+v * 1117+p * 29+d * 53:=by
   rw [Int.tdiv_eq_ediv_of_nonneg (by omega)]
   omega
  have t:=tmod_nn (x:=bits .xor .i64 (u * 131+v * 1117+p * 29+d * 53) (Int.tdiv (u * 131+v * 1117+p * 29+d * 53) 64)) (xor_nn' (by omega) (by omega) q0.1 (by omega)) (n:=n) (by omega)
  refine ⟨_,Ev.ifn hn1 (Ev.step (fun k=>rfl) ?_),t.1,fun _=>t.2,.inr t.2⟩
  simp only [spec_l20Rd_pick.j0]
  rw [hz0,e2,e3,e4,hu,hv,hd]
  refine Ev.ifn (by simp) (Ev.ifn hl (Ev.ifn (by omega) (Ev.ifp m1.1 (Ev.ifp m1.2 (Ev.ifp m2.1 (Ev.ifp m2.2 (Ev.ifn (by omega) ?_)))))))
  rw [w64 (x:=u) (by omega) (by omega),w64 (x:=v) (by omega) (by omega),w64 (x:=d) (by omega) (by omega),w64 (x:=u * 131) (by omega) (by omega),w64 (x:=v * 1117) (by omega) (by omega),w64 (x:=p * 29) (by omega) (by omega),w64 (x:=d * 53) (by omega) (by omega),w64 (x:=u * 131+v * 1117) (by omega) (by omega),w64 (x:=u * 131+v * 1117+p * 29) (by omega) (by omega),w64 (x:=u * 131+v * 1117+p * 29+d * 53) (by omega) (by omega),w64 (x:=Int.tdiv (u * 131+v * 1117+p * 29+d * 53) 64) (by omega) (by omega)]
  exact Ev.now _
theorem odd_ev {b:List Int} (hb:Code b) {p:Int} (h0:0≤p) (h1:p≤1000000000000) (n:Int) (hn:n≤2147483648) :
  ∃ x,Ev (fun k=>spec_l20Rd_odd.f k b p n) (x,p+1):=by
 obtain ⟨x,hx,_⟩:=pick_ev hb h0 h1 n hn
 unfold spec_l20Rd_odd.f
 exact ⟨_,Ev.bind hx (Ev.now _)⟩
theorem rdOf_mem {α:Type} (d:α) (l:List α) (i:Int) (h0:0≤i) (h1:i<(l.length:Int)):rdOf d l i ∈ l:=by
 unfold rdOf
 have h:i.toNat<l.length:=by omega
 simp only [List.getD_eq_getElem?_getD,List.getElem?_eq_getElem h,Option.getD_some]
 exact List.getElem_mem h
theorem rd_mem (l:List Int) (i:Int) (h0:0≤i) (h1:i<(l.length:Int)):rd l i ∈ l:=by
 unfold rd
 have h:i.toNat<l.length:=by omega
 simp only [List.getD_eq_getElem?_getD,List.getElem?_eq_getElem h,Option.getD_some]
 exact List.getElem_mem h
def Sm (B:Int) (c:Cell):Prop:=-B≤c.f1∧c.f1≤B∧c.f2.size≤16
def Sms (B:Int) (l:List Cell):Prop:=l.length≤41∧∀ c ∈ l,Sm B c
theorem leaf_ev {b:List Int} (hb:Code b) {p:Int} (h0:0≤p) (h1:p≤1000000000) (v:Int) (hv:v≤1000) :
  ∃ f0 f1 f2,Ev (fun k=>spec_l20Leaf.f k b p v) (f0,f1,f2,p+1+1)∧Sm 10000 ⟨f0,f1,f2⟩∧(f0=3→f1=0):=by
 obtain ⟨x,hx,x0,x4,_⟩:=pick_ev hb h0 (by omega) 4 (by omega)
 have x4:=x4 (by omega)
 have hx2:(x == 0)=decide (x=0):=rfl
 unfold spec_l20Leaf.f
 by_cases c01:x=0∨x=1
 ·obtain ⟨y,hy,y0,_,y1⟩:=pick_ev hb (p:=p+1) (by omega) (by omega) v (by omega)
  refine ⟨1,y,⟨#[]⟩,Ev.bind hx ?_,⟨?_,?_,by show 0≤16;omega⟩,by omega⟩
  ·have J:Ev (fun k=>spec_l20Leaf.j0 k v x true b (p+1)) (1,y,(⟨#[]⟩:ByteArray),p+1+1):=by
    refine Ev.step (fun k=>rfl) ?_
    simp only [spec_l20Leaf.j0]
    exact Ev.ifp (by simp) (Ev.bind hy (Ev.now _))
   by_cases c0:x=0
   ·refine Ev.ifp c0 ?_
    rw [show (x == 0)=true from beq_iff_eq.2 c0];exact J
   ·refine Ev.ifn c0 ?_
    rw [show (x == 1)=true from beq_iff_eq.2 (by omega)];exact J
  ·show -10000≤y;omega
  ·show y≤10000;omega
 have e1:(x == 1)=false:=beq_eq_false_iff_ne.2 (by omega)
 by_cases c2:x=2
 ·obtain ⟨y,hy,y0,y6,_⟩:=pick_ev hb (p:=p+1) (by omega) (by omega) 6 (by omega)
  have y6:=y6 (by omega)
  have hm:=rd_mem [0,1,2,-1,7,9999] y y0 (by simpa using y6)
  refine ⟨2,rd [0,1,2,-1,7,9999] y,⟨#[]⟩,Ev.bind hx (Ev.ifn (by omega) ?_),⟨?_,?_,by show 0≤16;omega⟩,by omega⟩
  ·refine Ev.step (fun k=>rfl) ?_
   simp only [spec_l20Leaf.j0]
   rw [e1]
   exact Ev.ifn (by simp) (Ev.ifp c2 (Ev.bindv rfl (Ev.bind hy (Ev.ifp y0 (Ev.ifp (by simpa using y6) (Ev.now _))))))
  ·show -10000≤rd _ y
   simp only [List.mem_cons,List.not_mem_nil,or_false] at hm
   omega
  ·show rd _ y≤10000
   simp only [List.mem_cons,List.not_mem_nil,or_false] at hm
   omega
 ·obtain ⟨y,hy,y0,y4,_⟩:=pick_ev hb (p:=p+1) (by omega) (by omega) 4 (by omega)
  have y4:=y4 (by omega)
  have hm:=rdOf_mem ByteArray.empty [(⟨#[97]⟩:ByteArray),⟨#[98]⟩,⟨#[99]⟩,⟨#[110,105,108]⟩] y y0 (by simpa using y4)
  refine ⟨3,0,rdOf ByteArray.empty [(⟨#[97]⟩:ByteArray),⟨#[98]⟩,⟨#[99]⟩,⟨#[110,105,108]⟩] y,Ev.bind hx (Ev.ifn (by omega) ?_),⟨?_,?_,?_⟩,fun _=>rfl⟩
  ·refine Ev.step (fun k=>rfl) ?_
   simp only [spec_l20Leaf.j0]
   rw [e1]
   exact Ev.ifn (by simp) (Ev.ifn c2 (Ev.bindv rfl (Ev.bind hy (Ev.ifp y0 (Ev.ifp (by simpa using y4) (Ev.now _))))))
  ·show -10000≤(0:Int);omega
  ·show (0:Int)≤10000;omega
  ·show ByteArray.size _≤16
   simp only [List.mem_cons,List.not_mem_nil,or_false] at hm
   rcases hm with h|h|h|h <;> rw [h] <;> decide
theorem term_loop {b:List Int} (hb:Code b) (P0:Int) (hP0:0≤P0) (hP1:P0≤100000000) (m v:Int) (hm:m≤40) (hv:v≤1000):∀ (n:Nat) (out:List Cell) (o p:Int),41 - out.length=n→0≤o→(out.length:Int)+o≤40→
  0≤p→p≤P0+5 * out.length→(∀ c ∈ out,Sm 10000 c)→1≤out.length+o→
  ∃ l q,Ev (fun k=>spec_l20Term.l0 k m v out o b p) (l,q)∧0≤q∧q≤P0+200∧1≤l.length∧l.length≤40∧∀ c ∈ l,Sm 10000 c:=by
 intro n
 induction n with
 | zero=>intro out o p hn;omega
 | succ n ih=>
  intro out o p hn ho hlo hp0 hp1 hs h1
  by_cases hz:o > 0
  case neg=>
   refine ⟨out,p,Ev.step (fun k=>rfl) ?_,hp0,by omega,by omega,by omega,hs⟩
   simp only [spec_l20Term.l0]
   exact Ev.ifn hz (Ev.now _)
  obtain ⟨f0,f1,f2,hl,hsm,hf3⟩:=leaf_ev hb hp0 (by omega) v hv
  have e1:wrap64 ((out.length:Int)+o)=out.length+o:=w64 (by omega) (by omega)
  have e2:wrap64 ((out.length:Int)+o+3)=out.length+o+3:=w64 (by omega) (by omega)
  have e3:wrap64 (o - 1)=o - 1:=w64 (by omega) (by omega)
  have J2:∀ (c:Cell) (q:Int),Sm 10000 c→(c.f0=3→0≤c.f1∧(out.length:Int)+o+c.f1≤40)→0≤q→q≤p+5→
    ∃ l q',Ev (fun k=>spec_l20Term.j2 k m v out o b q c.f0 c.f1 c.f2) (l,q')∧0≤q'∧q'≤P0+200∧1≤l.length∧l.length≤40∧∀ c ∈ l,Sm 10000 c:=by
   intro c q hc hk hq0 hq1
   by_cases h3:c.f0=3
   ·obtain ⟨k0,k1⟩:=hk h3
    obtain ⟨l,q',hl,r⟩:=ih (out++[c]) (o - 1+c.f1) q (by simp;omega) (by omega) (by simp;omega) hq0 (by simp;omega) (by
     intro d hd
     rcases List.mem_append.1 hd with h|h
     ·exact hs d h
     ·rw [List.mem_singleton.1 h];exact hc) (by simp;omega)
    refine ⟨l,q',Ev.step (fun k=>rfl) ?_,r⟩
    simp only [spec_l20Term.j2]
    refine Ev.ifp h3 (Ev.ifp (by omega) ?_)
    rw [e3,w64 (x:=o - 1+c.f1) (by omega) (by omega)]
    exact hl
   ·obtain ⟨l,q',hl,r⟩:=ih (out++[c]) (o - 1) q (by simp;omega) (by omega) (by simp;omega) hq0 (by simp;omega) (by
     intro d hd
     rcases List.mem_append.1 hd with h|h
     ·exact hs d h
     ·rw [List.mem_singleton.1 h];exact hc) (by simp;omega)
    refine ⟨l,q',Ev.step (fun k=>rfl) ?_,r⟩
    simp only [spec_l20Term.j2]
    refine Ev.ifn h3 (Ev.ifp (by omega) ?_)
    rw [e3]
    exact hl
  have K:∀ q,0≤q→q≤p+5→∃ l q',Ev (fun k=>spec_l20Term.j1 k m v out o false b q f0 f1 f2) (l,q')∧0≤q'∧q'≤P0+200∧1≤l.length∧l.length≤40∧∀ c ∈ l,Sm 10000 c:=by
   intro q hq0 hq1
   obtain ⟨l,q',hl,r⟩:=J2 ⟨f0,f1,f2⟩ q hsm (fun h=>by have:=hf3 h;show 0≤f1∧_+_+f1≤40;omega) hq0 hq1
   refine ⟨l,q',Ev.step (fun k=>rfl) ?_,r⟩
   simp only [spec_l20Term.j1]
   exact Ev.ifn (by simp) hl
  by_cases hr:(out.length:Int)+o+3<m
  case neg=>
   obtain ⟨l,q',hl',r⟩:=K (p+1+1) (by omega) (by omega)
   refine ⟨l,q',Ev.step (fun k=>rfl) ?_,r⟩
   simp only [spec_l20Term.l0]
   refine Ev.ifp hz (Ev.bind hl ?_)
   simp only [e1,e2]
   exact Ev.ifn hr hl'
  obtain ⟨x,hx,x0,x3,_⟩:=pick_ev hb (p:=p+1+1) (by omega) (by omega) 3 (by omega)
  by_cases hx0:x=0
  ·obtain ⟨y,hy,y0,y3,_⟩:=pick_ev hb (p:=p+1+1+1) (by omega) (by omega) 3 (by omega)
   obtain ⟨z,hzz,z0,z4,_⟩:=pick_ev hb (p:=p+1+1+1+1) (by omega) (by omega) 4 (by omega)
   have y3:=y3 (by omega)
   have z4:=z4 (by omega)
   have hmm:=rdOf_mem ByteArray.empty [(⟨#[102]⟩:ByteArray),⟨#[103]⟩,⟨#[99]⟩,⟨#[115]⟩] z z0 (by simpa using z4)
   have hq1:p+1+1+1+1+1≤p+5:=by omega
   have e4:wrap64 (1+y)=1+y:=w64 (by omega) (by omega)
   obtain ⟨l,q',hl',r⟩:∃ l q',Ev (fun k=>spec_l20Term.j2 k m v out o b (p+1+1+1+1+1) 3 (1+y) (rdOf ByteArray.empty [(⟨#[102]⟩:ByteArray),⟨#[103]⟩,⟨#[99]⟩,⟨#[115]⟩] z)) (l,q')∧0≤q'∧q'≤P0+200∧1≤l.length∧l.length≤40∧∀ c ∈ l,Sm 10000 c:=by
    exact J2 ⟨3,1+y,rdOf ByteArray.empty [(⟨#[102]⟩:ByteArray),⟨#[103]⟩,⟨#[99]⟩,⟨#[115]⟩] z⟩ _ ⟨by show -10000≤1+y;omega,by show 1+y≤10000;omega,by
     have hz:(rdOf ByteArray.empty [(⟨#[102]⟩:ByteArray),⟨#[103]⟩,⟨#[99]⟩,⟨#[115]⟩] z).size≤16:=by
      simp only [List.mem_cons,List.not_mem_nil,or_false] at hmm
      rcases hmm with h|h|h|h <;> rw [h] <;> decide
     exact hz⟩ (fun _=>by show 0≤1+y∧(out.length:Int)+o+(1+y)≤40;omega) (by omega) (by omega)
   refine ⟨l,q',Ev.step (fun k=>rfl) ?_,r⟩
   simp only [spec_l20Term.l0]
   refine Ev.ifp hz (Ev.bind hl ?_)
   simp only [e1,e2]
   refine Ev.ifp hr (Ev.bind hx (Ev.step (fun k=>rfl) ?_))
   simp only [spec_l20Term.j1]
   refine Ev.ifp (by simp [hx0]) (Ev.bind hy (Ev.bindv rfl (Ev.bind hzz (Ev.ifp z0 (Ev.ifp (by simpa using z4) ?_)))))
   simp only [e4]
   exact hl'
  ·obtain ⟨l,q',hl',r⟩:=K (p+1+1+1) (by omega) (by omega)
   refine ⟨l,q',Ev.step (fun k=>rfl) ?_,r⟩
   simp only [spec_l20Term.l0]
   refine Ev.ifp hz (Ev.bind hl ?_)
   simp only [e1,e2]
   refine Ev.ifp hr (Ev.bind hx ?_)
   simp only [show (x == 0)=false from beq_eq_false_iff_ne.2 hx0]
   exact hl'
theorem rdT_mem (l:List Cell) (i:Int) (h0:0≤i) (h1:i<(l.length:Int)):rd_T44 l i ∈ l:=by
 unfold rd_T44
 have h:i.toNat<l.length:=by omega
 simp only [List.getD_eq_getElem?_getD,List.getElem?_eq_getElem h,Option.getD_some]
 exact List.getElem_mem h
theorem Sm.up {B C:Int} (h:B≤C) {c:Cell} (hc:Sm B c):Sm C c:=⟨by have:=hc.1;omega,by have:=hc.2.1;omega,hc.2.2⟩
theorem Sms.set {l:List Cell} (h:Sms 200000 l) (i:Nat) (c:Cell) (hc:Sm 200000 c):Sms 200000 (l.set i c):=by
 refine ⟨by rw [List.length_set];exact h.1,fun d hd=>?_⟩
 rcases List.mem_or_eq_of_mem_set hd with h'|rfl
 ·exact h.2 d h'
 ·exact hc
theorem Sms.snoc {l:List Cell} (h:Sms 200000 l) (hl:l.length≤40) (c:Cell) (hc:Sm 200000 c):Sms 200000 (l++[c]):=by
 refine ⟨by simp;omega,fun d hd=>?_⟩
 rcases List.mem_append.1 hd with h'|h'
 ·exact h.2 d h'
 ·rw [List.mem_singleton.1 h'];exact hc
theorem fill_loop {b:List Int} (p:Int):∀ (n:Nat) (l:List Cell),41 - l.length=n→Sms 200000 l→∃ r,Ev (fun k=>spec_l20Spoil.l0 k l b p) (r,p)∧Sms 200000 r:=by
 intro n
 induction n with
 | zero=>
  intro l hn hs
  refine ⟨l,Ev.step (fun k=>rfl) ?_,hs⟩
  simp only [spec_l20Spoil.l0]
  exact Ev.ifn (by omega) (Ev.now _)
 | succ n ih=>
  intro l hn hs
  obtain ⟨r,hr,h⟩:=ih (l++[⟨3,1,⟨#[102]⟩⟩]) (by simp;omega) (hs.snoc (by omega) _ ⟨by show (-200000:Int)≤1;omega,by show (1:Int)≤200000;omega,by show 1≤16;omega⟩)
  refine ⟨r,Ev.step (fun k=>rfl) ?_,h⟩
  simp only [spec_l20Spoil.l0]
  exact Ev.ifp (by omega) (Ev.ifp (by omega) hr)
theorem spoil_ev {b:List Int} (hb:Code b) {p:Int} (h0:0≤p) (h1:p≤1000000000) (t:List Cell) (ht0:1≤t.length) (ht1:t.length≤40) (hs:∀ c ∈ t,Sm 10000 c) :
  ∃ r q,Ev (fun k=>spec_l20Spoil.f k b p t) (r,q)∧0≤q∧q≤p+5∧Sms 200000 r:=by
 have HS:Sms 200000 t:=⟨by omega,fun c hc=>(hs c hc).up (by omega)⟩
 obtain ⟨i,hi,i0,i1,_⟩:=pick_ev hb h0 (by omega) (t.length:Int) (by omega)
 have i1:=i1 (by omega)
 have hm:=hs _ (rdT_mem t i i0 i1)
 obtain ⟨y,hy,y0,y7,_⟩:=pick_ev hb (p:=p+1) (by omega) (by omega) 7 (by omega)
 have y7:=y7 (by omega)
 have W:∀ r q,0≤q→q≤p+5→Sms 200000 r→Ev (fun k=>(if y=0 then (if 0≤i then (if i≤(t.length:Int) then (some ((t.take (i:Int).toNat),p+1+1)) else (none)) else (none)) else (if y=1 then (if 0≤i then (if i<(t.length:Int) then (if t.length<4398046511104 then (some ((t++[(⟨(rd_T44 t i).f0,(rd_T44 t i).f1,(rd_T44 t i).f2⟩:Cell)]),p+1+1)) else (none)) else (none)) else (none)) else (if y=2 then (if 0≤i then (if i<(t.length:Int) then ((some (([1,(-1),99999,(-99999)]:List Int):List Int)).bind fun y217=>((spec_l20Rd_pick.f k b (p+1+1) 4).bind fun bt220=>(if 0≤bt220.1 then (if bt220.1<(y217.length:Int) then (some ((t.set (i:Int).toNat (⟨(rd_T44 t i).f0,wrap64 (((rd_T44 t i).f1)+(rd y217 bt220.1)),(rd_T44 t i).f2⟩:Cell)),bt220.2)) else (none)) else (none)))) else (none)) else (none)) else (if y=3 then ((some (([(⟨#[]⟩:ByteArray),(⟨#[116,111,111,108,111,110,103,110,97,109,101]⟩:ByteArray),(⟨#[65]⟩:ByteArray),(⟨#[97]⟩:ByteArray)]:List ByteArray):List ByteArray)).bind fun y224=>((spec_l20Rd_pick.f k b (p+1+1) 4).bind fun bt227=>(if 0≤bt227.1 then (if bt227.1<(y224.length:Int) then (if 0≤i then (if i<(t.length:Int) then (some ((t.set (i:Int).toNat (⟨(rd_T44 t i).f0,(rd_T44 t i).f1,rdOf ByteArray.empty y224 bt227.1⟩:Cell)),bt227.2)) else (none)) else (none)) else (none)) else (none)))) else (if y=4 then ((spec_l20Rd_pick.f k b (p+1+1) 5).bind fun bt231=>(if 0≤i then (if i<(t.length:Int) then (some ((t.set (i:Int).toNat (⟨bt231.1,(rd_T44 t i).f1,(rd_T44 t i).f2⟩:Cell)),bt231.2)) else (none)) else (none))) else (if y=5 then (spec_l20Spoil.l0 k t b (p+1+1)) else ((some (([99999,100000,(-1)]:List Int):List Int)).bind fun y237=>((spec_l20Rd_pick.f k b (p+1+1) 3).bind fun bt240=>(if 0≤bt240.1 then (if bt240.1<(y237.length:Int) then (if 0≤i then (if i<(t.length:Int) then (some ((t.set (i:Int).toNat (⟨1,rd y237 bt240.1,(⟨#[]⟩:ByteArray)⟩:Cell)),bt240.2)) else (none)) else (none)) else (none)) else (none))))))))))) (r,q)→
   ∃ r q,Ev (fun k=>spec_l20Spoil.f k b p t) (r,q)∧0≤q∧q≤p+5∧Sms 200000 r:=by
  intro r q q0 q1 hr h
  refine ⟨r,q,?_,q0,q1,hr⟩
  unfold spec_l20Spoil.f
  refine Ev.bindv rfl (Ev.ifp (by simp;omega) (Ev.bindv (a:=t) (by simp) (Ev.bind hi (Ev.bind hy ?_))))
  exact h
 by_cases e0:y=0
 ·refine W (t.take i.toNat) (p+1+1) (by omega) (by omega) ⟨by rw [List.length_take];omega,fun c hc=>HS.2 c (List.mem_of_mem_take hc)⟩ ?_
  exact Ev.ifp e0 (Ev.ifp i0 (Ev.ifp (by omega) (Ev.now _)))
 by_cases e1:y=1
 ·refine W (t++[(⟨(rd_T44 t i).f0,(rd_T44 t i).f1,(rd_T44 t i).f2⟩:Cell)]) (p+1+1) (by omega) (by omega) (HS.snoc ht1 _ (Sm.up (by omega) hm)) ?_
  exact Ev.ifn e0 (Ev.ifp e1 (Ev.ifp i0 (Ev.ifp i1 (Ev.ifp (by omega) (Ev.now _)))))
 by_cases e2:y=2
 ·obtain ⟨z,hz,z0,z4,_⟩:=pick_ev hb (p:=p+1+1) (by omega) (by omega) 4 (by omega)
  have z4:=z4 (by omega)
  have hmm:=rd_mem [1,(-1),99999,(-99999)] z z0 (by simpa using z4)
  simp only [List.mem_cons,List.not_mem_nil,or_false] at hmm
  have b1:=hm.1
  have b2:=hm.2.1
  have ew:wrap64 ((rd_T44 t i).f1+rd [1,(-1),99999,(-99999)] z)=(rd_T44 t i).f1+rd [1,(-1),99999,(-99999)] z:=w64 (by omega) (by omega)
  refine W (t.set i.toNat (⟨(rd_T44 t i).f0,wrap64 ((rd_T44 t i).f1+rd [1,(-1),99999,(-99999)] z),(rd_T44 t i).f2⟩:Cell)) (p+1+1+1) (by omega) (by omega) (HS.set _ _ ⟨?_,?_,hm.2.2⟩) ?_
  ·show (-200000:Int)≤wrap64 _
   rw [ew];omega
  ·show wrap64 _≤(200000:Int)
   rw [ew];omega
  exact Ev.ifn e0 (Ev.ifn e1 (Ev.ifp e2 (Ev.ifp i0 (Ev.ifp i1 (Ev.bindv rfl (Ev.bind hz (Ev.ifp z0 (Ev.ifp (by simpa using z4) (Ev.now _)))))))))
 by_cases e3:y=3
 ·obtain ⟨z,hz,z0,z4,_⟩:=pick_ev hb (p:=p+1+1) (by omega) (by omega) 4 (by omega)
  have z4:=z4 (by omega)
  have hmm:=rdOf_mem ByteArray.empty [(⟨#[]⟩:ByteArray),⟨#[116,111,111,108,111,110,103,110,97,109,101]⟩,⟨#[65]⟩,⟨#[97]⟩] z z0 (by simpa using z4)
  have hzz:(rdOf ByteArray.empty [(⟨#[]⟩:ByteArray),⟨#[116,111,111,108,111,110,103,110,97,109,101]⟩,⟨#[65]⟩,⟨#[97]⟩] z).size≤16:=by
   simp only [List.mem_cons,List.not_mem_nil,or_false] at hmm
   rcases hmm with h|h|h|h <;> rw [h] <;> decide
  refine W (t.set i.toNat (⟨(rd_T44 t i).f0,(rd_T44 t i).f1,rdOf ByteArray.empty [(⟨#[]⟩:ByteArray),⟨#[116,111,111,108,111,110,103,110,97,109,101]⟩,⟨#[65]⟩,⟨#[97]⟩] z⟩:Cell)) (p+1+1+1) (by omega) (by omega) (HS.set _ _ ⟨(Sm.up (by omega) hm:Sm 200000 _).1,(Sm.up (by omega) hm:Sm 200000 _).2.1,hzz⟩) ?_
  exact Ev.ifn e0 (Ev.ifn e1 (Ev.ifn e2 (Ev.ifp e3 (Ev.bindv rfl (Ev.bind hz (Ev.ifp z0 (Ev.ifp (by simpa using z4) (Ev.ifp i0 (Ev.ifp i1 (Ev.now _))))))))))
 by_cases e4:y=4
 ·obtain ⟨z,hz,z0,z4,_⟩:=pick_ev hb (p:=p+1+1) (by omega) (by omega) 5 (by omega)
  refine W (t.set i.toNat (⟨z,(rd_T44 t i).f1,(rd_T44 t i).f2⟩:Cell)) (p+1+1+1) (by omega) (by omega) (HS.set _ _ ⟨(Sm.up (by omega) hm:Sm 200000 _).1,(Sm.up (by omega) hm:Sm 200000 _).2.1,hm.2.2⟩) ?_
  exact Ev.ifn e0 (Ev.ifn e1 (Ev.ifn e2 (Ev.ifn e3 (Ev.ifp e4 (Ev.bind hz (Ev.ifp i0 (Ev.ifp i1 (Ev.now _))))))))
 by_cases e5:y=5
 ·obtain ⟨r,hr,hs'⟩:=fill_loop (b:=b) (p+1+1) (41 - t.length) t rfl HS
  exact W r (p+1+1) (by omega) (by omega) hs' (Ev.ifn e0 (Ev.ifn e1 (Ev.ifn e2 (Ev.ifn e3 (Ev.ifn e4 (Ev.ifp e5 hr))))))
 ·obtain ⟨z,hz,z0,z3,_⟩:=pick_ev hb (p:=p+1+1) (by omega) (by omega) 3 (by omega)
  have z3:=z3 (by omega)
  have hmm:=rd_mem [99999,100000,(-1)] z z0 (by simpa using z3)
  simp only [List.mem_cons,List.not_mem_nil,or_false] at hmm
  refine W (t.set i.toNat (⟨1,rd [99999,100000,(-1)] z,(⟨#[]⟩:ByteArray)⟩:Cell)) (p+1+1+1) (by omega) (by omega) (HS.set _ _ ⟨by show (-200000:Int)≤rd _ z;omega,by show rd _ z≤(200000:Int);omega,by show 0≤16;omega⟩) ?_
  exact Ev.ifn e0 (Ev.ifn e1 (Ev.ifn e2 (Ev.ifn e3 (Ev.ifn e4 (Ev.ifn e5 (Ev.bindv rfl (Ev.bind hz (Ev.ifp z0 (Ev.ifp (by simpa using z3) (Ev.ifp i0 (Ev.ifp i1 (Ev.now _))))))))))))
theorem term_ev {b:List Int} (hb:Code b) {p:Int} (h0:0≤p) (h1:p≤100000000) (m v:Int) (hm:m≤40) (hv:v≤1000) :
  ∃ l q,Ev (fun k=>spec_l20Term.f k b p m v) (l,q)∧0≤q∧q≤p+200∧1≤l.length∧l.length≤40∧∀ c ∈ l,Sm 10000 c:=by
 obtain ⟨l,q,h,q0,q1,r⟩:=term_loop hb p h0 h1 m v hm hv 41 [] 1 p (by simp) (by omega) (by simp) h0 (by simp) (by simp) (by simp)
 exact ⟨l,q,h,q0,by omega,r⟩
theorem termOr_ev {b:List Int} (hb:Code b) {p:Int} (h0:0≤p) (h1:p≤90000000) (n:Int) (hn:n≤2147483648) :
  ∃ l q,Ev (fun k=>spec_l20TermOr.f k b p n) (l,q)∧0≤q∧q≤p+300∧Sms 200000 l:=by
 obtain ⟨i,hi,i0,i4,_⟩:=pick_ev hb h0 (by omega) 4 (by omega)
 have i4:=i4 (by omega)
 have hm:=rd_mem [3,8,20,40] i i0 (by simpa using i4)
 simp only [List.mem_cons,List.not_mem_nil,or_false] at hm
 obtain ⟨t,q,ht,q0,q1,t0,t1,ts⟩:=term_ev hb (p:=p+1) (by omega) (by omega) (rd [3,8,20,40] i) 4 (by omega) (by omega)
 obtain ⟨o,ho⟩:=odd_ev hb q0 (by omega) n hn
 unfold spec_l20TermOr.f
 cases o with
 | true=>
  obtain ⟨r,q',hr,q0',q1',rs⟩:=spoil_ev hb (p:=q+1) (by omega) (by omega) t t0 t1 ts
  exact ⟨r,q',Ev.bindv rfl (Ev.bind hi (Ev.ifp i0 (Ev.ifp (by simpa using i4) (Ev.bind ht (Ev.bind ho (Ev.ifp (by simp) (Ev.bind hr (Ev.now _)))))))),q0',by omega,rs⟩
 | false=>
  exact ⟨t,q+1,Ev.bindv rfl (Ev.bind hi (Ev.ifp i0 (Ev.ifp (by simpa using i4) (Ev.bind ht (Ev.bind ho (Ev.ifn (by simp) (Ev.now _))))))),by omega,by omega,by omega,fun c hc=>(ts c hc).up (by omega)⟩
theorem open_ev {l:List Int} (h:∀ x ∈ l,0≤x∧x≤255):∃ b,spec_l20Open.f l=some (b,0)∧Code b:=by
 unfold spec_l20Open.f
 by_cases hl:(l.length:Int) > 2000
 ·rw [if_pos hl,if_pos (by omega)]
  exact ⟨_,rfl,fun x hx=>h x (List.mem_of_mem_take hx),by rw [List.length_take];omega⟩
 ·rw [if_neg hl]
  exact ⟨_,rfl,h,by omega⟩
theorem bytes_wf {l:List Int} (h:∀ x ∈ l,(Lit.int .u8 x).wf=true):∀ x ∈ l,0≤x∧x≤255:=by
 intro x hx
 have h2:IntKind.u8.min≤x∧x≤IntKind.u8.max:=by simpa [Lit.wf] using h x hx
 have e:IntKind.u8.min=0:=by decide
 have e2:IntKind.u8.max=255:=by decide
 rw [e,e2] at h2
 exact h2
abbrev IsCode (l:List Int):Prop:=l.length≤maxLen∧∀ x ∈ l,(Lit.int .u8 x).wf=true
theorem code_of {l:List Int} (h:IsCode l):∃ b,spec_l20Open.f l=some (b,0)∧Code b:=open_ev (bytes_wf h.2)
end Go.Proofs.YtlhniagacegbeaaDoor.Pu
