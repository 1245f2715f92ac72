/- The draw of a bent text: it ends, and the text is small. -/
import Derived.Test.YtlhniagacegbeaaGreatDoorMDraw
import Derived.Test.YtlhniagacegbeaaGreatDoorP9
namespace Go.Proofs.YtlhniagacegbeaaGreatDoor.Pu
open Go.RowKit Go.Proofs.YtlhniagacegbeaaGreatDoor.Cat Go.Proofs.YtlhniagacegbeaaGreatDoor.P Go.Proofs.YtlhniagacegbeaaGreatDoorW.PrintWords Go.Proofs.YtlhniagacegbeaaGreatDoorW.PrintLast
set_option linter.unusedVariables false
set_option linter.unusedSimpArgs false
theorem ex_size (s:ByteArray) (i j:Nat):(s.extract i j).size≤s.size:=by
 rw [Lib.size_eq,Lib.extract_data,List.length_take,List.length_drop,← Lib.size_eq];omega
theorem app_size (a b:ByteArray):(a++b).size=a.size+b.size:=by simp
theorem bent_ev {b:List Int} (hb:Code b) {p:Int} (h0:0≤p) (h1:p≤100000000) (s:ByteArray) (hs:s.size≤2000) :
  ∃ r q,Ev (fun k=>spec_l20Bent.f k b p s) (r,q)∧r.size≤6000:=by
 have hw:wrap64 ((s.size:Int)+1)=((s.size+1:Nat):Int):=wnext (by omega)
 obtain ⟨x,hx,x0,x1,_⟩:=pick_ev hb h0 (by omega) ((s.size+1:Nat):Int) (by omega)
 have x1:=x1 (by omega)
 obtain ⟨y,hy,y0,y1,_⟩:=pick_ev hb (p:=p+1) (by omega) (by omega) 256 (by omega)
 obtain ⟨z,hz,z0,z1,_⟩:=pick_ev hb (p:=p+1+1) (by omega) (by omega) 11 (by omega)
 have z1:=z1 (by omega)
 obtain ⟨u,hu,u0,u1,_⟩:=pick_ev hb (p:=p+1+1+1) (by omega) (by omega) 3 (by omega)
 obtain ⟨n,rfl⟩:=Int.eq_ofNat_of_zero_le x0
 have hw2:wrap64 ((n:Int)+1)=((n+1:Nat):Int):=wnext (by omega)
 have e0:=fun i j=>ex_size s i j
 unfold spec_l20Bent.f
 rw [hw]
 by_cases c0:u=0
 ·refine ⟨_,_,Ev.bind hx (Ev.bind hy (Ev.bindv rfl (Ev.bind hz (Ev.ifp z0 (Ev.ifp (by simpa using z1) (Ev.bindv rfl (Ev.bind hu (Ev.ifp c0 (Ev.ifp (by omega) (Ev.ifp (by omega) (Ev.ifp ?_ (Ev.ifp ?_ (Ev.now _))))))))))))),?_⟩
  ·have:=e0 0 (n:Int).toNat;rw [strOfNums_size];simp only [List.length_cons,List.length_nil];omega
  ·have:=e0 0 (n:Int).toNat;have:=e0 (n:Int).toNat s.size;rw [app_size,strOfNums_size];simp only [List.length_cons,List.length_nil];omega
  ·have:=e0 0 (n:Int).toNat;have:=e0 (n:Int).toNat s.size;rw [app_size,app_size,strOfNums_size];simp only [List.length_cons,List.length_nil];omega
 by_cases c1:u=1
 ·by_cases hlt:(n:Int)<(s.size:Int)
  ·refine ⟨_,_,Ev.bind hx (Ev.bind hy (Ev.bindv rfl (Ev.bind hz (Ev.ifp z0 (Ev.ifp (by simpa using z1) (Ev.bindv rfl (Ev.bind hu (Ev.ifn c0 (Ev.ifp c1 (Ev.ifp hlt (Ev.ifp (by omega) (Ev.ifp (by omega) (Ev.ifp (by show 0≤wrap64 ((n:Int)+1);omega) (Ev.ifp (by show wrap64 ((n:Int)+1)≤_;omega) (Ev.ifp ?_ (Ev.now _)))))))))))))))),?_⟩
   ·have:=e0 0 (n:Int).toNat;have:=e0 (wrap64 ((n:Int)+1)).toNat s.size;show (s.extract 0 (n:Int).toNat).size+(s.extract (wrap64 ((n:Int)+1)).toNat s.size).size≤_;omega
   ·have:=e0 0 (n:Int).toNat;have:=e0 (wrap64 ((n:Int)+1)).toNat s.size;rw [app_size];show (s.extract 0 (n:Int).toNat).size+(s.extract (wrap64 ((n:Int)+1)).toNat s.size).size≤_;omega
  ·exact ⟨_,_,Ev.bind hx (Ev.bind hy (Ev.bindv rfl (Ev.bind hz (Ev.ifp z0 (Ev.ifp (by simpa using z1) (Ev.bindv rfl (Ev.bind hu (Ev.ifn c0 (Ev.ifp c1 (Ev.ifn hlt (Ev.now _))))))))))),by omega⟩
 ·by_cases hlt:(n:Int)<(s.size:Int)
  ·refine ⟨_,_,Ev.bind hx (Ev.bind hy (Ev.bindv rfl (Ev.bind hz (Ev.ifp z0 (Ev.ifp (by simpa using z1) (Ev.bindv rfl (Ev.bind hu (Ev.ifn c0 (Ev.ifn c1 (Ev.ifp hlt (Ev.ifp (by omega) (Ev.ifp (by omega) (Ev.ifp ?_ (Ev.ifp (by show 0≤wrap64 ((n:Int)+1);omega) (Ev.ifp (by show wrap64 ((n:Int)+1)≤_;omega) (Ev.ifp ?_ (Ev.now _))))))))))))))))),?_⟩
   ·have:=e0 0 (n:Int).toNat;rw [strOfNums_size];simp only [List.length_cons,List.length_nil];show (s.extract 0 (n:Int).toNat).size+_≤_;omega
   ·have:=e0 0 (n:Int).toNat;have:=e0 (wrap64 ((n:Int)+1)).toNat s.size;rw [app_size,strOfNums_size];simp only [List.length_cons,List.length_nil];show (s.extract 0 (n:Int).toNat).size+_+(s.extract (wrap64 ((n:Int)+1)).toNat s.size).size≤_;omega
   ·have:=e0 0 (n:Int).toNat;have:=e0 (wrap64 ((n:Int)+1)).toNat s.size;rw [app_size,app_size,strOfNums_size];simp only [List.length_cons,List.length_nil];show (s.extract 0 (n:Int).toNat).size+_+(s.extract (wrap64 ((n:Int)+1)).toNat s.size).size≤_;omega
  ·exact ⟨_,_,Ev.bind hx (Ev.bind hy (Ev.bindv rfl (Ev.bind hz (Ev.ifp z0 (Ev.ifp (by simpa using z1) (Ev.bindv rfl (Ev.bind hu (Ev.ifn c0 (Ev.ifn c1 (Ev.ifn hlt (Ev.now _))))))))))),by omega⟩
end Go.Proofs.YtlhniagacegbeaaGreatDoor.Pu
