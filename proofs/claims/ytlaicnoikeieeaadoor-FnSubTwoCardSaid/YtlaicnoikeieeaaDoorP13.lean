/- Contracts of functions of the program: each as a Lean function, and that its call does what that says; printed by cprint.py (this session) over print.py of the kit. Conditions: the hypotheses of each theorem. -/
import Derived.Test.YtlaicnoikeieeaaDoorVZ
import Derived.Test.YtlaicnoikeieeaaDoorP0
import Derived.Test.YtlaicnoikeieeaaDoorP4
import Derived.Test.YtlaicnoikeieeaaDoorP6
import Derived.Test.YtlaicnoikeieeaaDoorP8
import Derived.Test.YtlaicnoikeieeaaDoorP9
import Derived.Test.YtlaicnoikeieeaaDoorP10
import Derived.Test.YtlaicnoikeieeaaDoorP11
import Derived.Test.YtlaicnoikeieeaaDoorP12
namespace Go.Proofs.YtlaicnoikeieeaaDoor.P
open Go.RowKit Go.Proofs.YtlaicnoikeieeaaDoorW.PrintWords Go.Proofs.YtlaicnoikeieeaaDoorW.PrintLast Go.Proofs.YtlaicnoikeieeaaDoorW.PrintMore
attribute [local go_sem] max2_int min2_int max_two min_two max_three min_three max_four min_four   -- for this text's walks alone
set_option linter.unusedVariables false
set_option linter.unusedSimpArgs false
def meetF (K:Nat) (s:List Cat.Bind) (a b:List Cat.Cell):Option (List Cat.Bind × Int):=
 (spec_l2Full.f K s a).bind fun r1=>(spec_l2Full.f K s b).bind fun r2=>if r1.2=false then some ([],3) else if r2.2=false then some ([],3) else
  (l2uniF K K s [a] [b]).bind fun q=>match q with
   | none=>some ([],2)
   | some x=>(spec_l2Full.f K x a).bind fun r3=>if r3.2=false then some ([],3) else some (x,1)
def MPost (base:Nat) (W:World) (v:Value) (x:List Cat.Bind) (code:Int) (e:Ending) (w':World):Prop:=
 ∃ v1,e = .returned (.tuple #[v1,.int .i64 code])∧Kd.S k30 30 w' base (fun _=>True) v1 x∧W.grownBy w' v.ownBlock∧(v1.ownBlock=v.ownBlock∨∃ g,v1.ownBlock=some g∧W.heap.size≤g)
theorem grown_none {a b c:World} {g:Option Nat} (h:a.grownBy b g) (k:b.grownBy c none):a.grownBy c g:=grown_then h ⟨k.os,k.tape,k.output,k.size,fun i hi _=>k.block i hi (by simp)⟩
set_option maxHeartbeats 16000000 in
set_option maxRecDepth 100000 in
theorem spec_l2Meet.any (base:Nat) (v:Value) (s:List Cat.Bind) (W:World) (K:Nat) (a b:List Cat.Cell) (A1 A2:Option Addr) (c1 c2:Nat) (x:List Cat.Bind) (code:Int) (hS:Kd.S k30 30 W base (fun _=>True) v s) (hbase:base≤W.heap.size)
  (hFa:Kd.F k46 W (fun k=>some k≠v.ownBlock) A1 a.length a) (hc1:a.length≤c1) (hFb:Kd.F k46 W (fun k=>some k≠v.ownBlock) A2 b.length b) (hc2:b.length≤c2) (h:meetF K s a b=some (x,code)) :
  Calls Tryd.prog 86 #[v,.slice A1 a.length c1,.slice A2 b.length c2] W (MPost base W v x code):=by
 unfold meetF at h
 obtain ⟨⟨l1,b1⟩,h1,h2⟩:=Option.bind_eq_some_iff.1 h
 obtain ⟨⟨l2,b2⟩,h3,h4⟩:=Option.bind_eq_some_iff.1 h2
 obtain ⟨Av,cv,ev⟩:=Kd.S_slice hS
 subst ev
 have H1:=Aside0.mk h1
 have H2:=Aside0.mk h3
 have H4:=Aside0.mk h4
 have HS:=Aside0.mk hS
 have HA:=Aside0.mk hFa
 have HB:=Aside0.mk hFb
 have HBS:=Aside0.mk hbase
 have HSC:=Aside0.mk (Kd.S_reads' hS)
 clear h h1 h2 h3 h4 hS hFa hFb hbase
 cases b1 with
 | false=>
  have H5:=Aside0.mk (H4.out.symm.trans (if_pos rfl)).symm
  clear H4
  go_enter Tryd.func86,Tryd.ntmps86
  go_wp2_with (first
   | (go_at_call 73;(with_reducible refine (spec_l2Full.calls K Av cv s A1 c1 a l1 false W HSC.out.2.2 HSC.out.2.1 (Kd.F_now HA.out) hc1 H1.out).mono ?_);rintro e w1 ⟨v1,rfl,_,hb1⟩;have HB1:=Aside0.mk hb1;clear hb1)
   | (go_at_call 73;(with_reducible refine (spec_l2Full.calls K Av cv s A2 c2 b l2 b2 _ (Kd.C_below HSC.out.2.2 HB1.out) HSC.out.2.1 (Kd.F_now (Kd.F_below HB.out HB1.out)) hc2 H2.out).mono ?_);rintro e w2 ⟨v2,rfl,_,hb2⟩;have HB2:=Aside0.mk (HB1.out.trans (hb2.mono HB1.out.size));clear hb2)
   | ((with_reducible refine gate_dst (N:=34) rfl ?_);refine Kd.S_lit k30 (w0:=W) W.heap.size 30 ?hg (N:=34) ?hd (xs:=([]:List (S30))) (inner:=[]) (ok:=fun _=>True) (okp:=fun _=>True) ?hr ?hp (fun _ hk=>hk) trivial HB2.out HB2.out.size (by simp) ?_;(case hd=>rfl);(case hg=>rfl);(case hr=>first|(go_simp;done)|(go_simp;rfl));(case hp=>exact (Reps.none _ _));intro v9 w9 ho9 hb9 hg9 hnew9;have HO9:=Aside0.mk ho9;have HG9:=Aside0.mk (show World.grownBy _ w9 none from hg9);have HN9:=Aside0.mk hnew9;clear ho9 hb9 hg9 hnew9))
  go_ret2
  have h6:=Option.some.inj H5.out
  injection h6 with h6 h7
  subst h6 h7
  refine ⟨v9,rfl,Kd.S_lower HO9.out HBS.out,grown_none (below_grownS HB2.out (Value.slice Av s.length cv).ownBlock) HG9.out,?_⟩
  obtain ⟨g,h1,h2⟩:=HN9.out
  exact .inr ⟨g,h1,Nat.le_trans (World.grownBy.size (below_grownS HB2.out (Value.slice Av s.length cv).ownBlock)) h2⟩
 | true=>
 cases b2 with
 | false=>
  have H5:=Aside0.mk ((H4.out.symm.trans (if_neg (by simp))).trans (if_pos rfl)).symm
  clear H4
  go_enter Tryd.func86,Tryd.ntmps86
  go_wp2_with (first
   | (go_at_call 73;(with_reducible refine (spec_l2Full.calls K Av cv s A1 c1 a l1 true W HSC.out.2.2 HSC.out.2.1 (Kd.F_now HA.out) hc1 H1.out).mono ?_);rintro e w1 ⟨v1,rfl,_,hb1⟩;have HB1:=Aside0.mk hb1;clear hb1)
   | (go_at_call 73;(with_reducible refine (spec_l2Full.calls K Av cv s A2 c2 b l2 false _ (Kd.C_below HSC.out.2.2 HB1.out) HSC.out.2.1 (Kd.F_now (Kd.F_below HB.out HB1.out)) hc2 H2.out).mono ?_);rintro e w2 ⟨v2,rfl,_,hb2⟩;have HB2:=Aside0.mk (HB1.out.trans (hb2.mono HB1.out.size));clear hb2)
   | ((with_reducible refine gate_dst (N:=34) rfl ?_);refine Kd.S_lit k30 (w0:=W) W.heap.size 30 ?hg (N:=34) ?hd (xs:=([]:List (S30))) (inner:=[]) (ok:=fun _=>True) (okp:=fun _=>True) ?hr ?hp (fun _ hk=>hk) trivial HB2.out HB2.out.size (by simp) ?_;(case hd=>rfl);(case hg=>rfl);(case hr=>first|(go_simp;done)|(go_simp;rfl));(case hp=>exact (Reps.none _ _));intro v9 w9 ho9 hb9 hg9 hnew9;have HO9:=Aside0.mk ho9;have HG9:=Aside0.mk (show World.grownBy _ w9 none from hg9);have HN9:=Aside0.mk hnew9;clear ho9 hb9 hg9 hnew9))
  go_ret2
  have h6:=Option.some.inj H5.out
  injection h6 with h6 h7
  subst h6 h7
  refine ⟨v9,rfl,Kd.S_lower HO9.out HBS.out,grown_none (below_grownS HB2.out (Value.slice Av s.length cv).ownBlock) HG9.out,?_⟩
  obtain ⟨g,h1,h2⟩:=HN9.out
  exact .inr ⟨g,h1,Nat.le_trans (World.grownBy.size (below_grownS HB2.out (Value.slice Av s.length cv).ownBlock)) h2⟩
 | true=>
  have h5:=((H4.out.symm.trans (if_neg (by simp))).trans (if_neg (by simp))).symm
  obtain ⟨q,hq,h6⟩:=Option.bind_eq_some_iff.1 h5
  have HU:=Aside0.mk hq
  have H6:=Aside0.mk h6
  clear h5 hq h6 H4
  cases q with
  | none=>
   go_enter Tryd.func86,Tryd.ntmps86
   go_wp2_with (first
   | (go_at_call 73;(with_reducible refine (spec_l2Full.calls K Av cv s A1 c1 a l1 true W HSC.out.2.2 HSC.out.2.1 (Kd.F_now HA.out) hc1 H1.out).mono ?_);rintro e w1 ⟨v1,rfl,_,hb1⟩;have HB1:=Aside0.mk hb1;clear hb1)
   | (go_at_call 73;(with_reducible refine (spec_l2Full.calls K Av cv s A2 c2 b l2 true _ (Kd.C_below HSC.out.2.2 HB1.out) HSC.out.2.1 (Kd.F_now (Kd.F_below HB.out HB1.out)) hc2 H2.out).mono ?_);rintro e w2 ⟨v2,rfl,_,hb2⟩;have HB2:=Aside0.mk (HB1.out.trans (hb2.mono HB1.out.size));clear hb2)
   | (go_at_call 99;(with_reducible refine (spec_l2Unify.any base (.slice Av s.length cv) s _ K K a b A1 A2 c1 c2 none (Kd.S_below HS.out HB2.out) (Nat.le_trans HBS.out HB2.out.size) (Kd.F_below HA.out HB2.out) hc1 (Kd.F_below HB.out HB2.out) hc2 HU.out).mono ?_);rintro e w4 ⟨v4,rfl,hS4,hg4,ha4⟩;have HG4:=Aside0.mk (grown_then (below_grownS HB2.out (Value.slice Av s.length cv).ownBlock) hg4);have HA4:=Aside0.mk ha4;clear hS4 hg4 ha4)
   | ((with_reducible refine gate_dst (N:=44) rfl ?_);refine Kd.S_lit k30 (w0:=w4) W.heap.size 30 ?hg (N:=44) ?hd (xs:=([]:List (S30))) (inner:=[]) (ok:=fun _=>True) (okp:=fun _=>True) ?hr ?hp (fun _ hk=>hk) trivial (Below.mono (Below.refl w4.heap.size w4) HG4.out.size) HG4.out.size (by simp) ?_;(case hd=>rfl);(case hg=>rfl);(case hr=>first|(go_simp;done)|(go_simp;rfl));(case hp=>exact (Reps.none _ _));intro v9 w9 ho9 hb9 hg9 hnew9;have HO9:=Aside0.mk ho9;have HG9:=Aside0.mk (show World.grownBy _ w9 none from hg9);have HN9:=Aside0.mk hnew9;clear ho9 hb9 hg9 hnew9))
   go_ret2
   have h6:=Option.some.inj H6.out
   injection h6 with h6 h7
   subst h6 h7
   refine ⟨v9,rfl,Kd.S_lower HO9.out HBS.out,grown_none HG4.out HG9.out,?_⟩
   obtain ⟨g,h1,h2⟩:=HN9.out
   exact .inr ⟨g,h1,Nat.le_trans (World.grownBy.size HG4.out) h2⟩
  | some y=>
   obtain ⟨⟨l3,b3⟩,h7,h8⟩:=Option.bind_eq_some_iff.1 H6.out
   have H7:=Aside0.mk h7
   have H8:=Aside0.mk h8
   clear h7 h8 H6
   cases b3 with
   | false=>
    have H9:=Aside0.mk (H8.out.symm.trans (if_pos rfl)).symm
    clear H8
    go_enter Tryd.func86,Tryd.ntmps86
    go_wp2_with (first
   | (go_at_call 73;(with_reducible refine (spec_l2Full.calls K Av cv s A1 c1 a l1 true W HSC.out.2.2 HSC.out.2.1 (Kd.F_now HA.out) hc1 H1.out).mono ?_);rintro e w1 ⟨v1,rfl,_,hb1⟩;have HB1:=Aside0.mk hb1;clear hb1)
   | (go_at_call 73;(with_reducible refine (spec_l2Full.calls K Av cv s A2 c2 b l2 true _ (Kd.C_below HSC.out.2.2 HB1.out) HSC.out.2.1 (Kd.F_now (Kd.F_below HB.out HB1.out)) hc2 H2.out).mono ?_);rintro e w2 ⟨v2,rfl,_,hb2⟩;have HB2:=Aside0.mk (HB1.out.trans (hb2.mono HB1.out.size));clear hb2)
   | (go_at_call 99;(with_reducible refine (spec_l2Unify.any base (.slice Av s.length cv) s _ K K a b A1 A2 c1 c2 (some y) (Kd.S_below HS.out HB2.out) (Nat.le_trans HBS.out HB2.out.size) (Kd.F_below HA.out HB2.out) hc1 (Kd.F_below HB.out HB2.out) hc2 HU.out).mono ?_);rintro e w4 ⟨v4,rfl,hS4,hg4,ha4⟩;have HG4:=Aside0.mk (grown_then (below_grownS HB2.out (Value.slice Av s.length cv).ownBlock) hg4);have HA4:=Aside0.mk ha4;have HS4:=Aside0.mk (hS4 y rfl);clear hS4 hg4 ha4;obtain ⟨A4,c4,ev4⟩:=Kd.S_slice HS4.out;subst ev4;have HC4:=Aside0.mk (Kd.S_reads' HS4.out))
   | (go_at_call 73;(with_reducible refine (spec_l2Full.calls K A4 c4 y A1 c1 a l3 false _ HC4.out.2.2 HC4.out.2.1 (Kd.F_now (Kd.F_grown HA.out HG4.out (fun k hk=>hk))) hc1 H7.out).mono ?_);rintro e w5 ⟨v5,rfl,_,hb5⟩;have HG5:=Aside0.mk (grown_then HG4.out (below_grownS hb5 (Value.slice Av s.length cv).ownBlock));clear hb5)
   | ((with_reducible refine gate_dst (N:=53) rfl ?_);refine Kd.S_lit k30 (w0:=w5) W.heap.size 30 ?hg (N:=53) ?hd (xs:=([]:List (S30))) (inner:=[]) (ok:=fun _=>True) (okp:=fun _=>True) ?hr ?hp (fun _ hk=>hk) trivial (Below.mono (Below.refl w5.heap.size w5) HG5.out.size) HG5.out.size (by simp) ?_;(case hd=>rfl);(case hg=>rfl);(case hr=>first|(go_simp;done)|(go_simp;rfl));(case hp=>exact (Reps.none _ _));intro v9 w9 ho9 hb9 hg9 hnew9;have HO9:=Aside0.mk ho9;have HG9:=Aside0.mk (show World.grownBy _ w9 none from hg9);have HN9:=Aside0.mk hnew9;clear ho9 hb9 hg9 hnew9))
    go_ret2
    have h6:=Option.some.inj H9.out
    injection h6 with h6 h7
    subst h6 h7
    refine ⟨v9,rfl,Kd.S_lower HO9.out HBS.out,grown_none HG5.out HG9.out,?_⟩
    obtain ⟨g,h1,h2⟩:=HN9.out
    exact .inr ⟨g,h1,Nat.le_trans (World.grownBy.size HG5.out) h2⟩
   | true=>
    have H9:=Aside0.mk (H8.out.symm.trans (if_neg (by simp))).symm
    clear H8
    go_enter Tryd.func86,Tryd.ntmps86
    go_wp2_with (first
   | (go_at_call 73;(with_reducible refine (spec_l2Full.calls K Av cv s A1 c1 a l1 true W HSC.out.2.2 HSC.out.2.1 (Kd.F_now HA.out) hc1 H1.out).mono ?_);rintro e w1 ⟨v1,rfl,_,hb1⟩;have HB1:=Aside0.mk hb1;clear hb1)
   | (go_at_call 73;(with_reducible refine (spec_l2Full.calls K Av cv s A2 c2 b l2 true _ (Kd.C_below HSC.out.2.2 HB1.out) HSC.out.2.1 (Kd.F_now (Kd.F_below HB.out HB1.out)) hc2 H2.out).mono ?_);rintro e w2 ⟨v2,rfl,_,hb2⟩;have HB2:=Aside0.mk (HB1.out.trans (hb2.mono HB1.out.size));clear hb2)
   | (go_at_call 99;(with_reducible refine (spec_l2Unify.any base (.slice Av s.length cv) s _ K K a b A1 A2 c1 c2 (some y) (Kd.S_below HS.out HB2.out) (Nat.le_trans HBS.out HB2.out.size) (Kd.F_below HA.out HB2.out) hc1 (Kd.F_below HB.out HB2.out) hc2 HU.out).mono ?_);rintro e w4 ⟨v4,rfl,hS4,hg4,ha4⟩;have HG4:=Aside0.mk (grown_then (below_grownS HB2.out (Value.slice Av s.length cv).ownBlock) hg4);have HA4:=Aside0.mk ha4;have HS4:=Aside0.mk (hS4 y rfl);clear hS4 hg4 ha4;obtain ⟨A4,c4,ev4⟩:=Kd.S_slice HS4.out;subst ev4;have HC4:=Aside0.mk (Kd.S_reads' HS4.out))
   | (go_at_call 73;(with_reducible refine (spec_l2Full.calls K A4 c4 y A1 c1 a l3 true _ HC4.out.2.2 HC4.out.2.1 (Kd.F_now (Kd.F_grown HA.out HG4.out (fun k hk=>hk))) hc1 H7.out).mono ?_);rintro e w5 ⟨v5,rfl,_,hb5⟩;have HS5:=Aside0.mk (Kd.S_below HS4.out hb5);have HG5:=Aside0.mk (grown_then HG4.out (below_grownS hb5 (Value.slice Av s.length cv).ownBlock));clear hb5))
    go_ret2
    have h7:=Option.some.inj H9.out
    injection h7 with h7 h8
    subst h7 h8
    refine ⟨_,rfl,HS5.out,HG5.out,?_⟩
    rcases HA4.out with h|⟨g,h1,h2⟩
    ·exact .inl h
    ·exact .inr ⟨g,h1,Nat.le_trans HB2.out.size h2⟩
def spec_l2Copy.l0:Nat→List (S30)→List (S30)→Int→Option ((List (S30)))
 | 0,_,_,_=>none
 | k+1,x0,x3,x4=>if x4<(x0.length:Int) then (if 0≤x4 then ((some (([]:List (S46)):List (S46))).bind fun y284=>(if y284.length+((rd_T30 x0 x4).f1).length<4398046511104 then (if x3.length<4398046511104 then (spec_l2Copy.l0 k x0 (x3++[(⟨(rd_T30 x0 x4).f0,(y284++((rd_T30 x0 x4).f1))⟩:S30)]) (wrap64 (x4+1))) else (none)) else (none))) else (none)) else (some x3)
def spec_l2Copy.f (k:Nat) (l0:List (S30)):Option ((List (S30))):=spec_l2Copy.l0 k l0 (([]:List (S30))) 0
def spec_l2Copy.T5:Bool × List (List Nat × List Nat):=(true,[([],[]),([],[]),([],[]),([1,2],[1,2]),([3],[3]),([4],[4]),([],[]),([],[]),([],[]),([7,8],[7,8]),([9],[9]),([10],[10]),([6,11],[6,11]),([5,12],[5,12]),([13],[13]),([0,14,12],[0,14]),([15,15,0,1,2,3,4,5,6,7,8,9,10,11,12,13,14,15],[0,15])])
def spec_l2Copy.B5:List Nat:=[0,0,0,6,14,30,0,0,0,384,896,1920,4032,8190,16382,32767,65535]
theorem spec_l2Copy.tab5:rtab .any (opsOf Tryd.f87 5)=spec_l2Copy.T5:=by kernel_rfl
theorem spec_l2Copy.bits5:waitsOk spec_l2Copy.T5.2 spec_l2Copy.B5=true:=by kernel_rfl
set_option maxHeartbeats 8000000 in
set_option maxRecDepth 100000 in
theorem spec_l2Copy.calls (k:Nat) (A0:Option Addr) (c0:Nat) (l0:List (S30)) (r:List (S30)) (w:World) (hr0:Kd.C k30 w A0 l0.length l0) (hc0:l0.length≤c0) (h:spec_l2Copy.f k l0=some r) :
  Calls Tryd.prog 87 #[.slice A0 l0.length c0] w fun e w'=>∃ v0_:Value,e = .returned (v0_)∧Kd.S k30 30 w' w.heap.size (fun _=>True) v0_ r∧Below w.heap.size w w':=by
 have hu30:=Tryd.underlying30
 have HR0:=Aside0.mk hr0
 have HC0:=Aside0.mk hc0
 clear hr0 hc0
 have HB:=Aside0.mk (Below.refl w.heap.size w)
 have H:(spec_l2Copy.l0 k l0 (([]:List (S30))) 0)=some r:=h
 clear h
 obtain ⟨y280,hy280⟩:∃ y_:List (S30),y_=(([]:List (S30))):=⟨_,rfl⟩
 replace H:(spec_l2Copy.l0 k l0 y280 0)=some r:=by first|(rw [hy280];exact H)|exact H
 have Ny280:=Aside0.mk hy280
 clear hy280
 have H':=Aside0.mk H
 clear H
 go_enter Tryd.func87,Tryd.ntmps87
 go_wp2_with (first|((with_reducible refine gate_dst (N:=5) rfl ?_);refine Kd.S_lit k30 _ 30 ?hg (N:=5) ?hd (xs:=([]:List (S30))) (inner:=[]) (ok:=fun _=>True) (okp:=fun _=>True) ?hr ?hp (fun _ hk=>hk) trivial (Below.refl _ _) (Nat.le_refl _) (by simp) ?_;(case hd=>rfl);(case hg=>rfl);(case hr=>first|(go_simp;done)|(go_simp;rfl));(case hp=>exact (Reps.none _ _));intro v281 w2 ho3 hb hg_ hnew_;clear hg_ hnew_;(first|rw [← Ny280.out] at ho3|(simp only [Int.reduceToNat] at ho3;rw [← Ny280.out] at ho3));have n0_:=Aside0.mk (Kd.S_lower ho3 (below_size qz4));have n1_:=Aside0.mk (below_step qz4 hb);clear HB;have HO282:=n0_;have HB:=n1_;clear n0_ n1_ hb ho3))
 go_loopg [3,4] k (fun kq v3 v4 w'=>∃ (x3_1:List (S30)) (x4_1:Int),v4 = .int .i64 x4_1∧Aside0 (spec_l2Copy.l0 kq l0 x3_1 x4_1=some r)∧Aside0 (kq≤k)∧Aside0 (Kd.S k30 30 w' w.heap.size (fun _=>True) v3 x3_1)∧Aside0 (Below w.heap.size w w'))
 case atStart=>exact ⟨(y280),(0),qz9,H',⟨Nat.le_refl _⟩,⟨by (with_reducible repeat (first|apply Kd.S_alloc|apply Kd.S_drewN|apply Kd.S_drew));exact HO282.out⟩,⟨qz5⟩⟩
 case round=>
  clear H'
  try clear p2
  obtain ⟨x3_1,x4_1,rfl,HA,HK1,HO_3,HB⟩:=hrel
  cases gk with
  | zero=>exact absurd HA.out (by simp [spec_l2Copy.l0])
  | succ k1=>
   have H:=HA.out
   clear HA
   simp only [spec_l2Copy.l0] at H
   by_cases c4:x4_1<(l0.length:Int)
   ·rw [if_pos c4] at H
    have c4b0:decide (x4_1<(l0.length:Int))=true:=decide_eq_true c4
    clear c4
    by_cases c5:0≤x4_1
    ·rw [if_pos c5] at H
     have c5b0:decide (0≤x4_1)=true:=decide_eq_true c5
     clear c5
     obtain ⟨y284,hy284⟩:∃ y_:List (S46),y_=(([]:List (S46))):=⟨_,rfl⟩
     replace H:(if y284.length+((rd_T30 l0 x4_1).f1).length<4398046511104 then (if x3_1.length<4398046511104 then (spec_l2Copy.l0 k1 l0 (x3_1++[(⟨(rd_T30 l0 x4_1).f0,(y284++((rd_T30 l0 x4_1).f1))⟩:S30)]) (wrap64 (x4_1+1))) else (none)) else (none))=some r:=by first|(rw [hy284];exact H)|exact H
     have Ny284:=Aside0.mk hy284
     clear hy284
     by_cases c6:y284.length+((rd_T30 l0 x4_1).f1).length<4398046511104
     ·rw [if_pos c6] at H
      have LMc6:=Aside0.mk c6
      clear c6
      obtain ⟨y288,hy288⟩:∃ y_:List (S46),y_=(y284++((rd_T30 l0 x4_1).f1)):=⟨_,rfl⟩
      replace H:(if x3_1.length<4398046511104 then (spec_l2Copy.l0 k1 l0 (x3_1++[(⟨(rd_T30 l0 x4_1).f0,y288⟩:S30)]) (wrap64 (x4_1+1))) else (none))=some r:=by first|(rw [hy288];exact H)|exact H
      have Ny288:=Aside0.mk hy288
      clear hy288
      by_cases c7:x3_1.length<4398046511104
      ·rw [if_pos c7] at H
       have LMc7:=Aside0.mk c7
       clear c7
       obtain ⟨y291,hy291⟩:∃ y_:List (S30),y_=(x3_1++[(⟨(rd_T30 l0 x4_1).f0,y288⟩:S30)]):=⟨_,rfl⟩
       replace H:(spec_l2Copy.l0 k1 l0 y291 (wrap64 (x4_1+1)))=some r:=by first|(rw [hy291];exact H)|exact H
       have Ny291:=Aside0.mk hy291
       clear hy291
       have H':=Aside0.mk H
       clear H
       try go_wp2
       have n0_:=Aside0.mk (Kd.S_drew HO_3.out)
       have n1_:=Aside0.mk (below_drew1 HB.out)
       clear HO_3 HB
       have HO_3:=n0_
       have HB:=n1_
       clear n0_ n1_
       have p283:0≤(x4_1:Int):=of_decide_eq_true qz6
       have q283:x4_1<(l0.length:Int):=of_decide_eq_true qz6
       obtain ⟨ad283,A283_1,c283_1,e283,hx283_0,hx283_1,hl283_1,hi283_1⟩:=at_T30 HR0.out x4_1 p283 q283
       have hw283_1:=hx283_1
       have hw283_0:=hx283_0
       cases e283
       replace hx283_0:=(HB.out.cell (World.block_lt_of_cell? w _ hx283_0)).trans hx283_0
       replace hx283_1:=(HB.out.cell (World.block_lt_of_cell? w _ hx283_1)).trans hx283_1
       have HR283_1:=Aside0.mk hi283_1
       have HC283_1:=Aside0.mk hl283_1
       clear hi283_1 hl283_1
       replace p283:=eq_true p283
       replace q283:=eq_true q283
       have p287:0≤(x4_1:Int):=of_decide_eq_true qz6
       have q287:x4_1<(l0.length:Int):=of_decide_eq_true qz6
       obtain ⟨ad287,A287_1,c287_1,e287,hx287_0,hx287_1,hl287_1,hi287_1⟩:=at_T30 HR0.out x4_1 p287 q287
       have hw287_1:=hx287_1
       have hw287_0:=hx287_0
       obtain rfl:ad283=ad287:=(by injection e287)
       replace hx287_0:=(HB.out.cell (World.block_lt_of_cell? w _ hx287_0)).trans hx287_0
       replace hx287_1:=(HB.out.cell (World.block_lt_of_cell? w _ hx287_1)).trans hx287_1
       have HR287_1:=Aside0.mk hi287_1
       have HC287_1:=Aside0.mk hl287_1
       clear hi287_1 hl287_1
       replace p287:=eq_true p287
       replace q287:=eq_true q287
       have ea_:=Option.some.inj (hx283_1.symm.trans hx287_1)
       injection ea_ with ea_ en_ ec_
       subst ea_
       subst ec_
       clear en_
       refine start_ (n:=17) (S:=fun w'=>w'.cell? (ad283.add ((x4_1).toNat * 2))=some (.int .i64 ((rd_T30 l0 x4_1).f0))∧w'.cell? ⟨(ad283.add ((x4_1).toNat * 2)).block,(ad283.add ((x4_1).toNat * 2)).off+1,none⟩=some (.slice A283_1 ((rd_T30 l0 x4_1).f1).length c283_1)∧w'.cell? (ad283.add ((x4_1).toNat * 2))=some (.int .i64 ((rd_T30 l0 x4_1).f0))∧w'.cell? ⟨(ad283.add ((x4_1).toNat * 2)).block,(ad283.add ((x4_1).toNat * 2)).off+1,none⟩=some (.slice A283_1 ((rd_T30 l0 x4_1).f1).length c283_1)) (ds:=[]) #[false,false,false,false,false,false,false,false,false,false,false,false,false,false,false,false,false] (by kernel_rfl) rfl rfl ⟨((HB.out.cell (World.block_lt_of_cell? w _ hw283_0)).trans hw283_0),((HB.out.cell (World.block_lt_of_cell? w _ hw283_1)).trans hw283_1),((HB.out.cell (World.block_lt_of_cell? w _ hw287_0)).trans hw287_0),((HB.out.cell (World.block_lt_of_cell? w _ hw287_1)).trans hw287_1)⟩ (fun hHeld=>?_);refine with_tabW spec_l2Copy.tab5 spec_l2Copy.bits5 (fun HT_ HW_=>?_)
       generalize wr.drew=w8 at HO_3 HB HR283_1 HR287_1 hx283_0 hx283_1 hx287_0 hx287_1 hHeld ⊢
       refine pure_ (i:=0) (N:=some 12) (v:=?_) (a':=?_) #[true,false,false,false,false,false,false,false,false,false,false,false,false,false,false,false,false] rfl rfl (any_of HT_.out (by kernel_rfl)) (fun _ _ _ h=>h) (Or.inl ⟨by rfl,?_⟩) ?_ ?_
       rotate_left
       ·intro w'
        go_simp
        with_reducible rfl
       rotate_left
       ·simp only [Act.put,List.setIfInBounds_toArray,List.set_cons_zero,List.set_cons_succ,i64_w,i32_w]
        rfl
       refine pure_ (i:=1) (N:=some 13) (v:=?_) (a':=?_) #[true,true,false,false,false,false,false,false,false,false,false,false,false,false,false,false,false] rfl rfl (any_of HT_.out (by kernel_rfl)) (fun _ _ _ h=>h) (Or.inl ⟨by rfl,?_⟩) ?_ ?_
       rotate_left
       ·intro w'
        go_simp
        with_reducible rfl
       rotate_left
       ·simp only [Act.put,List.setIfInBounds_toArray,List.set_cons_zero,List.set_cons_succ,i64_w,i32_w]
        rfl
       refine pure_ (i:=2) (N:=some 14) (v:=?_) (a':=?_) #[true,true,true,false,false,false,false,false,false,false,false,false,false,false,false,false,false] rfl rfl (any_of HT_.out (by kernel_rfl)) (fun _ _ _ h=>h) (Or.inl ⟨by rfl,?_⟩) ?_ ?_
       rotate_left
       ·intro w'
        go_simp
        with_reducible rfl
       rotate_left
       ·simp only [Act.put,List.setIfInBounds_toArray,List.set_cons_zero,List.set_cons_succ,i64_w,i32_w]
        rfl
       refine pure_ (i:=3) (N:=some 15) (v:=?_) (a':=?_) #[true,true,true,true,false,false,false,false,false,false,false,false,false,false,false,false,false] rfl rfl (any_of HT_.out (by kernel_rfl)) (fun _ _ _ h=>h) (Or.inl ⟨by rfl,?_⟩) ?_ ?_
       rotate_left
       ·intro w'
        go_simp
        with_reducible rfl
       rotate_left
       ·simp only [Act.put,List.setIfInBounds_toArray,List.set_cons_zero,List.set_cons_succ,i64_w,i32_w]
        rfl
       refine pure_ (i:=4) (N:=some 16) (v:=?_) (a':=?_) #[true,true,true,true,true,false,false,false,false,false,false,false,false,false,false,false,false] rfl rfl (any_of HT_.out (by kernel_rfl)) (fun _ _ _ h=>h) (Or.inl ⟨by rfl,?_⟩) ?_ ?_
       rotate_left
       ·intro w'
        go_simp
        with_reducible rfl
       rotate_left
       ·simp only [Act.put,List.setIfInBounds_toArray,List.set_cons_zero,List.set_cons_succ,i64_w,i32_w]
        rfl
       refine pure_ (i:=7) (N:=some 19) (v:=?_) (a':=?_) #[true,true,true,true,true,false,false,true,false,false,false,false,false,false,false,false,false] rfl rfl (any_of HT_.out (by kernel_rfl)) (fun _ _ _ h=>h) (Or.inl ⟨by rfl,?_⟩) ?_ ?_
       rotate_left
       ·intro w'
        go_simp
        with_reducible rfl
       rotate_left
       ·simp only [Act.put,List.setIfInBounds_toArray,List.set_cons_zero,List.set_cons_succ,i64_w,i32_w]
        rfl
       refine pure_ (i:=8) (N:=some 20) (v:=?_) (a':=?_) #[true,true,true,true,true,false,false,true,true,false,false,false,false,false,false,false,false] rfl rfl (any_of HT_.out (by kernel_rfl)) (fun _ _ _ h=>h) (Or.inl ⟨by rfl,?_⟩) ?_ ?_
       rotate_left
       ·intro w'
        go_simp
        with_reducible rfl
       rotate_left
       ·simp only [Act.put,List.setIfInBounds_toArray,List.set_cons_zero,List.set_cons_succ,i64_w,i32_w]
        rfl
       refine pure_ (i:=9) (N:=some 21) (v:=?_) (a':=?_) #[true,true,true,true,true,false,false,true,true,true,false,false,false,false,false,false,false] rfl rfl (any_of HT_.out (by kernel_rfl)) (fun _ _ _ h=>h) (Or.inl ⟨by rfl,?_⟩) ?_ ?_
       rotate_left
       ·intro w'
        go_simp
        with_reducible rfl
       rotate_left
       ·simp only [Act.put,List.setIfInBounds_toArray,List.set_cons_zero,List.set_cons_succ,i64_w,i32_w]
        rfl
       refine pure_ (i:=10) (N:=some 22) (v:=?_) (a':=?_) #[true,true,true,true,true,false,false,true,true,true,true,false,false,false,false,false,false] rfl rfl (any_of HT_.out (by kernel_rfl)) (fun _ _ _ h=>h) (Or.inl ⟨by rfl,?_⟩) ?_ ?_
       rotate_left
       ·intro w'
        go_simp
        with_reducible rfl
       rotate_left
       ·simp only [Act.put,List.setIfInBounds_toArray,List.set_cons_zero,List.set_cons_succ,i64_w,i32_w]
        rfl
       refine take_ (i:=5) (N:=some 17) (v:=?_) (a':=?_) #[true,true,true,true,true,true,false,true,true,true,true,false,false,false,false,false,false] rfl rfl (take_ofW HT_.out HW_.out (by kernel_rfl)) (fun _ _ _ h=>h) (Or.inl ⟨by rfl,?_⟩) hHeld ?_ ?_
       rotate_left
       ·rintro w' ⟨s0,s1,s2,s3⟩
        go_simp
        with_reducible rfl
       rotate_left
       ·simp only [Act.put,List.setIfInBounds_toArray,List.set_cons_zero,List.set_cons_succ,i64_w,i32_w]
        rfl
       refine take_ (i:=11) (N:=some 23) (v:=?_) (a':=?_) #[true,true,true,true,true,true,false,true,true,true,true,true,false,false,false,false,false] rfl rfl (take_ofW HT_.out HW_.out (by kernel_rfl)) (fun _ _ _ h=>h) (Or.inl ⟨by rfl,?_⟩) hHeld ?_ ?_
       rotate_left
       ·rintro w' ⟨s0,s1,s2,s3⟩
        go_simp
        with_reducible rfl
       rotate_left
       ·simp only [Act.put,List.setIfInBounds_toArray,List.set_cons_zero,List.set_cons_succ,i64_w,i32_w]
        rfl
       refine one_ (i:=6) (N:=some 18) #[true,true,true,true,true,true,true,true,true,true,true,true,false,false,false,false,false] rfl rfl (one_of HT_.out (by kernel_rfl)) (by decide) (fun K hK=>?_)
       refine Kd.R_lit_step k46 _ 46 ?hg (N:=18) ?hd (xs:=([]:List (S46))) (inner:=[]) (ok:=fun _=>True) (okp:=fun _=>True) ?hr ?hp (fun _ hk=>hk) trivial (Below.refl _ _) (Nat.le_refl _) (by simp) ?_;(case hd=>rfl);(case hg=>rfl);(case hr=>first|(go_simp;done)|(go_simp;rfl));(case hp=>exact (Reps.none _ _))
       intro v285 w9 ho10 hb hg_ hnew_
       clear hg_ hnew_
       (first|rw [← Ny284.out] at ho10|(simp only [Int.reduceToNat] at ho10;rw [← Ny284.out] at ho10))
       have n0_:=Aside0.mk (Kd.S_elder' qz60 (Kd.R_base ho10) hb)
       have n1_:=Aside0.mk (Kd.R_lower ho10 (below_size qz4))
       have n2_:=Aside0.mk (below_step qz4 hb)
       clear HO_3 HB
       have HO_3:=n0_
       have HO286:=n1_
       have HB:=n2_
       clear n0_ n1_ n2_ hb ho10
       refine hK.out _ _ ⟨((HB.out.cell (World.block_lt_of_cell? w _ hw283_0)).trans hw283_0),((HB.out.cell (World.block_lt_of_cell? w _ hw283_1)).trans hw283_1),((HB.out.cell (World.block_lt_of_cell? w _ hw287_0)).trans hw287_0),((HB.out.cell (World.block_lt_of_cell? w _ hw287_1)).trans hw287_1)⟩ (fun hHeld=>?_)
       clear hK K
       refine norm_ (a':=?_) ?_ ?_
       rotate_left
       ·show Act.put _ (some 18) _=_
        simp only [Act.put,List.setIfInBounds_toArray,List.set_cons_zero,List.set_cons_succ,i64_w,i32_w]
        rfl
       refine one_ (i:=12) (N:=some 24) #[true,true,true,true,true,true,true,true,true,true,true,true,true,false,false,false,false] rfl rfl (one_of HT_.out (by kernel_rfl)) (by decide) (fun K hK=>?_)
       refine Kd.R_append_rows_step k46 (w0:=w) w.heap.size (by rfl) (.tmp 18) (.tmp 23) 26 46 (.agg #[(.int .i64 0),(.int .i64 0),(.string ⟨#[]⟩)]) 32 rfl Tryd.underlying26 info46 rfl (by decide) (by omega) v285 y284 ((rd_T30 l0 x4_1).f1) _ _ _ (fun _=>True) (fun _=>False) rfl rfl ?aO ?aR (fun _ _ h=>h) (fun _ h=>h.elim) ?aF ?aB ?aS ?aL ?_
       (case aR=>repeat (first|exact (Kd.C_below HR287_1.out HB.out)|(with_reducible refine Kd.C_alloc ?_ _)|(with_reducible refine Kd.C_drewN ?_ _)|(with_reducible refine Kd.C_drew ?_)))
       (case aB=>exact qz4)
       (case aF=>exact (fun _ _=>trivial))
       (case aO=>(with_reducible repeat (first|apply Kd.R_alloc|apply Kd.R_drewN|apply Kd.R_drew));exact HO286.out)
       (case aS=>exact (below_size qz4))
       (case aL=>have:=LMc6.out;omega)
       intro v289 w11 ho hb hg hat
       rw [← Ny288.out] at ho
       have n0_:=Aside0.mk (Kd.S_after (ok:=(fun _=>True)) qz60 hg hat)
       have n1_:=Aside0.mk (hb)
       have n2_:=Aside0.mk (ho)
       clear HO_3 HB HO286
       have HO_3:=n0_
       have HB:=n1_
       have HO290:=n2_
       clear n0_ n1_ n2_ ho hb hg hat
       obtain ⟨Ao12,co12,eo12⟩:=Kd.R_slice HO290.out
       (first|subst eo12|(injection eo12 with f1_ f2_ f3_;have f4_:=f1_.symm;have f5_:=f3_.symm;clear f1_ f2_ f3_;subst f4_;subst f5_))
       refine hK.out _ _ ⟨((HB.out.cell (World.block_lt_of_cell? w _ hw283_0)).trans hw283_0),((HB.out.cell (World.block_lt_of_cell? w _ hw283_1)).trans hw283_1),((HB.out.cell (World.block_lt_of_cell? w _ hw287_0)).trans hw287_0),((HB.out.cell (World.block_lt_of_cell? w _ hw287_1)).trans hw287_1)⟩ (fun hHeld=>?_)
       clear hK K
       refine norm_ (a':=?_) ?_ ?_
       rotate_left
       ·show Act.put _ (some 24) _=_
        simp only [Act.put,List.setIfInBounds_toArray,List.set_cons_zero,List.set_cons_succ,i64_w,i32_w]
        rfl
       refine pure_ (i:=13) (N:=some 25) (v:=?_) (a':=?_) #[true,true,true,true,true,true,true,true,true,true,true,true,true,true,false,false,false] rfl rfl (any_of HT_.out (by kernel_rfl)) (fun _ _ _ h=>h) (Or.inl ⟨by rfl,?_⟩) ?_ ?_
       rotate_left
       ·intro w'
        go_simp
        with_reducible rfl
       rotate_left
       ·simp only [Act.put,List.setIfInBounds_toArray,List.set_cons_zero,List.set_cons_succ,i64_w,i32_w]
        rfl
       refine one_ (i:=14) (N:=some 26) #[true,true,true,true,true,true,true,true,true,true,true,true,true,true,true,false,false] rfl rfl (one_of HT_.out (by kernel_rfl)) (by decide) (fun K hK=>?_)
       refine value_ (w1:=?_) (v:=?_) (by rfl) rfl ?_ ?_
       rotate_left 2
       ·go_simp
        constructor
        ·rfl
        ·rfl
       refine hK.out _ _ ⟨(World.cell?_alloc_lt _ _ _ (World.block_lt_of_cell? _ _ (((HB.out.cell (World.block_lt_of_cell? w _ hw283_0)).trans hw283_0)))).trans (((HB.out.cell (World.block_lt_of_cell? w _ hw283_0)).trans hw283_0)),(World.cell?_alloc_lt _ _ _ (World.block_lt_of_cell? _ _ (((HB.out.cell (World.block_lt_of_cell? w _ hw283_1)).trans hw283_1)))).trans (((HB.out.cell (World.block_lt_of_cell? w _ hw283_1)).trans hw283_1)),(World.cell?_alloc_lt _ _ _ (World.block_lt_of_cell? _ _ (((HB.out.cell (World.block_lt_of_cell? w _ hw287_0)).trans hw287_0)))).trans (((HB.out.cell (World.block_lt_of_cell? w _ hw287_0)).trans hw287_0)),(World.cell?_alloc_lt _ _ _ (World.block_lt_of_cell? _ _ (((HB.out.cell (World.block_lt_of_cell? w _ hw287_1)).trans hw287_1)))).trans (((HB.out.cell (World.block_lt_of_cell? w _ hw287_1)).trans hw287_1))⟩ (fun hHeld=>?_)
       clear hK K
       refine norm_ (a':=?_) ?_ ?_
       rotate_left
       ·show Act.put _ (some 26) _=_
        simp only [Act.put,List.setIfInBounds_toArray,List.set_cons_zero,List.set_cons_succ,i64_w,i32_w]
        rfl
       refine one_ (i:=15) (N:=some 27) #[true,true,true,true,true,true,true,true,true,true,true,true,true,true,true,true,false] rfl rfl (one_of HT_.out (by kernel_rfl)) (by decide) (fun K hK=>?_)
       refine Kd.S_append_step k30 (w0:=w) w.heap.size (by rfl) (.tmp 12) (.tmp 26) 23 30 (.agg #[(.int .i64 0),(.slice none 0 0)]) 32 rfl Tryd.underlying23 info30 rfl (by decide) (by omega) u3 x3_1 (⟨(rd_T30 l0 x4_1).f0,y288⟩:S30) [.int .i64 ((rd_T30 l0 x4_1).f0),.slice Ao12 y288.length co12] (fun _=>True) (fun k_=>some k_=(.slice Ao12 y288.length co12:Value).ownBlock) rfl rfl ?aP (fun k_ hk_=>((Kd.R_mono (ok':=fun k_=>((fun _=>True)) k_∧some k_≠(u3:Value).ownBlock) (Kd.R_apart' (HO290.out) (Kd.S_typed HO_3.out) (by decide)) (fun k_ hk=>⟨trivial,hk.2⟩))).1 k_ hk_.symm) ?aF ?aO ?aB ?aS ?aL ?_
       (case aP=>exact k30_mkM _ _ _ (⟨(rd_T30 l0 x4_1).f0,y288⟩:S30) (Kd.R_mono (Kd.R_tight rfl (Kd.R_mono (ok':=fun k_=>((fun _=>True)) k_∧some k_≠(u3:Value).ownBlock) (Kd.R_apart' (HO290.out) (Kd.S_typed HO_3.out) (by decide)) (fun k_ hk=>⟨trivial,hk.2⟩))) (fun _ h_=>h_)))
       (case aB=>exact qz4)
       (case aF=>exact (fun _ _=>trivial))
       (case aO=>(with_reducible repeat (first|apply Kd.S_alloc|apply Kd.S_drewN|apply Kd.S_drew));exact Kd.S_mono HO_3.out (fun k_ hk=>⟨trivial,fun e_=>hk.2 e_⟩))
       (case aS=>exact (below_size qz4))
       (case aL=>have:=LMc7.out;omega)
       intro v292 w13 ho hb hg hat
       rw [← Ny291.out] at ho
       have n0_:=Aside0.mk (hb)
       have n1_:=Aside0.mk (ho)
       clear HB HO_3 HO290
       have HB:=n0_
       have HO293:=n1_
       clear n0_ n1_ ho hb hg hat
       refine hK.out _ _ ⟨((HB.out.cell (World.block_lt_of_cell? w _ hw283_0)).trans hw283_0),((HB.out.cell (World.block_lt_of_cell? w _ hw283_1)).trans hw283_1),((HB.out.cell (World.block_lt_of_cell? w _ hw287_0)).trans hw287_0),((HB.out.cell (World.block_lt_of_cell? w _ hw287_1)).trans hw287_1)⟩ (fun hHeld=>?_)
       clear hK K
       refine norm_ (a':=?_) ?_ ?_
       rotate_left
       ·show Act.put _ (some 27) _=_
        simp only [Act.put,List.setIfInBounds_toArray,List.set_cons_zero,List.set_cons_succ,i64_w,i32_w]
        rfl
       refine pure_ (i:=16) (N:=some 3) (v:=?_) (a':=?_) #[true,true,true,true,true,true,true,true,true,true,true,true,true,true,true,true,true] rfl rfl (any_of HT_.out (by kernel_rfl)) (fun _ _ _ h=>h) (Or.inl ⟨by rfl,?_⟩) ?_ ?_
       rotate_left
       ·intro w'
        go_simp
        with_reducible rfl
       rotate_left
       ·simp only [Act.put,List.setIfInBounds_toArray,List.set_cons_zero,List.set_cons_succ,i64_w,i32_w]
        rfl
       refine done_ (done_of HT_.out (by kernel_rfl)) ?_
       try go_wp2
       go_roundg k1
       case measure=>have:=HK1.out;omega
       case rel=>exact ⟨(y291),(wrap64 (x4_1+1)),qz9,H',⟨by have:=HK1.out;omega⟩,⟨by (with_reducible repeat (first|apply Kd.S_alloc|apply Kd.S_drewN|apply Kd.S_drew));exact HO293.out⟩,⟨qz5⟩⟩
      ·rw [if_neg c7] at H
       exact absurd H (by simp)
     ·rw [if_neg c6] at H
      exact absurd H (by simp)
    ·rw [if_neg c5] at H
     exact absurd H (by simp)
   ·rw [if_neg c4] at H
    have c4b0:decide (x4_1<(l0.length:Int))=false:=decide_eq_false c4
    clear c4
    obtain rfl:=Option.some.inj H
    go_wp2
    go_ret
    exact ⟨_,qz7,qz60,qz5⟩
def spec_SubUnify.f (k:Nat) (l0:List (S30)) (l1:List (S46)) (l2:List (S46)):Option (List (S30) × Int):=
 (spec_SubOk.f k l0).bind fun b0=>if b0=false then some ([],4) else (spec_TrmOk.f k l1).bind fun b1=>if b1=false then some ([],4) else (spec_TrmOk.f k l2).bind fun b2=>if b2=false then some ([],4) else
  (spec_l2Copy.f k l0).bind fun s=>meetF k s l1 l2
set_option maxHeartbeats 16000000 in
set_option maxRecDepth 100000 in
theorem spec_SubUnify.calls (k:Nat) (A0:Option Addr) (c0:Nat) (l0:List (S30)) (A1:Option Addr) (c1:Nat) (l1:List (S46)) (A2:Option Addr) (c2:Nat) (l2:List (S46)) (r1:List (S30)) (r2:Int) (w:World) (hr0:Kd.C k30 w A0 l0.length l0) (hc0:l0.length≤c0) (hr1:Kd.C k46 w A1 l1.length l1) (hc1:l1.length≤c1) (hr2:Kd.C k46 w A2 l2.length l2) (hc2:l2.length≤c2) (h:spec_SubUnify.f k l0 l1 l2=some (r1,r2)) :
  Calls Tryd.prog 47 #[.slice A0 l0.length c0,.slice A1 l1.length c1,.slice A2 l2.length c2] w fun e w'=>∃ v0_:Value,e = .returned (.tuple #[v0_,.int .i64 r2])∧Kd.S k30 30 w' w.heap.size (fun _=>True) v0_ r1∧Below w.heap.size w w':=by
 unfold spec_SubUnify.f at h
 obtain ⟨b0,h0,g0⟩:=Option.bind_eq_some_iff.1 h
 have H0:=Aside0.mk h0
 have HS:=Aside0.mk hr0
 have HA:=Aside0.mk hr1
 have HB:=Aside0.mk hr2
 clear h h0 hr0 hr1 hr2
 cases b0 with
 | false=>
  rw [if_pos rfl] at g0
  injection g0 with h6
  injection h6 with h6 h7
  subst h6 h7
  go_enter Tryd.func47,Tryd.ntmps47
  go_wp2_with (first
   | (go_at_call 24;(with_reducible refine (spec_SubOk.calls k A0 c0 l0 false w HS.out hc0 H0.out).mono ?_);rintro e w1 ⟨rfl,hb1⟩;have HB1:=Aside0.mk hb1;clear hb1)
   | ((with_reducible refine gate_dst (N:=21) rfl ?_);refine Kd.S_lit k30 (w0:=w) w.heap.size 30 ?hg (N:=21) ?hd (xs:=([]:List (S30))) (inner:=[]) (ok:=fun _=>True) (okp:=fun _=>True) ?hr ?hp (fun _ hk=>hk) trivial HB1.out HB1.out.size (by simp) ?_;(case hd=>rfl);(case hg=>rfl);(case hr=>first|(go_simp;done)|(go_simp;rfl));(case hp=>exact (Reps.none _ _));intro v9 w9 ho9 hb9 hg9 hnew9;have HO9:=Aside0.mk ho9;have HB9:=Aside0.mk hb9;clear ho9 hb9 hg9 hnew9))
  go_ret2
  exact ⟨_,rfl,HO9.out,HB9.out⟩
 | true=>
 rw [if_neg (by simp)] at g0
 obtain ⟨b1,h1,g1⟩:=Option.bind_eq_some_iff.1 g0
 have H1:=Aside0.mk h1
 clear g0 h1
 cases b1 with
 | false=>
  rw [if_pos rfl] at g1
  injection g1 with h6
  injection h6 with h6 h7
  subst h6 h7
  go_enter Tryd.func47,Tryd.ntmps47
  go_wp2_with (first
   | (go_at_call 24;(with_reducible refine (spec_SubOk.calls k A0 c0 l0 true w HS.out hc0 H0.out).mono ?_);rintro e w1 ⟨rfl,hb1⟩;have HB1:=Aside0.mk hb1;clear hb1)
   | (go_at_call 30;(with_reducible refine (spec_TrmOk.calls k A1 c1 l1 false _ (Kd.C_below HA.out HB1.out) hc1 H1.out).mono ?_);rintro e w2 ⟨rfl,hb2⟩;have HB2:=Aside0.mk (HB1.out.trans (hb2.mono HB1.out.size));clear hb2)
   | ((with_reducible refine gate_dst (N:=21) rfl ?_);refine Kd.S_lit k30 (w0:=w) w.heap.size 30 ?hg (N:=21) ?hd (xs:=([]:List (S30))) (inner:=[]) (ok:=fun _=>True) (okp:=fun _=>True) ?hr ?hp (fun _ hk=>hk) trivial HB2.out HB2.out.size (by simp) ?_;(case hd=>rfl);(case hg=>rfl);(case hr=>first|(go_simp;done)|(go_simp;rfl));(case hp=>exact (Reps.none _ _));intro v9 w9 ho9 hb9 hg9 hnew9;have HO9:=Aside0.mk ho9;have HB9:=Aside0.mk hb9;clear ho9 hb9 hg9 hnew9))
  go_ret2
  exact ⟨_,rfl,HO9.out,HB9.out⟩
 | true=>
 rw [if_neg (by simp)] at g1
 obtain ⟨b2,h2,g2⟩:=Option.bind_eq_some_iff.1 g1
 have H2:=Aside0.mk h2
 clear g1 h2
 cases b2 with
 | false=>
  rw [if_pos rfl] at g2
  injection g2 with h6
  injection h6 with h6 h7
  subst h6 h7
  go_enter Tryd.func47,Tryd.ntmps47
  go_wp2_with (first
   | (go_at_call 24;(with_reducible refine (spec_SubOk.calls k A0 c0 l0 true w HS.out hc0 H0.out).mono ?_);rintro e w1 ⟨rfl,hb1⟩;have HB1:=Aside0.mk hb1;clear hb1)
   | (go_at_call 30;(with_reducible refine (spec_TrmOk.calls k A1 c1 l1 true _ (Kd.C_below HA.out HB1.out) hc1 H1.out).mono ?_);rintro e w2 ⟨rfl,hb2⟩;have HB2:=Aside0.mk (HB1.out.trans (hb2.mono HB1.out.size));clear hb2)
   | (go_at_call 30;(with_reducible refine (spec_TrmOk.calls k A2 c2 l2 false _ (Kd.C_below HB.out HB2.out) hc2 H2.out).mono ?_);rintro e w3 ⟨rfl,hb3⟩;have HB3:=Aside0.mk (HB2.out.trans (hb3.mono HB2.out.size));clear hb3)
   | ((with_reducible refine gate_dst (N:=21) rfl ?_);refine Kd.S_lit k30 (w0:=w) w.heap.size 30 ?hg (N:=21) ?hd (xs:=([]:List (S30))) (inner:=[]) (ok:=fun _=>True) (okp:=fun _=>True) ?hr ?hp (fun _ hk=>hk) trivial HB3.out HB3.out.size (by simp) ?_;(case hd=>rfl);(case hg=>rfl);(case hr=>first|(go_simp;done)|(go_simp;rfl));(case hp=>exact (Reps.none _ _));intro v9 w9 ho9 hb9 hg9 hnew9;have HO9:=Aside0.mk ho9;have HB9:=Aside0.mk hb9;clear ho9 hb9 hg9 hnew9))
  go_ret2
  exact ⟨_,rfl,HO9.out,HB9.out⟩
 | true=>
  rw [if_neg (by simp)] at g2
  obtain ⟨s,h3,h4⟩:=Option.bind_eq_some_iff.1 g2
  have H3:=Aside0.mk h3
  have H4:=Aside0.mk h4
  clear g2 h3 h4
  have HFA:=Aside0.mk (Kd.C_F k46_heap HA.out)
  have HFB:=Aside0.mk (Kd.C_F k46_heap HB.out)
  go_enter Tryd.func47,Tryd.ntmps47
  go_wp2_with (first
   | (go_at_call 24;(with_reducible refine (spec_SubOk.calls k A0 c0 l0 true w HS.out hc0 H0.out).mono ?_);rintro e w1 ⟨rfl,hb1⟩;have HB1:=Aside0.mk hb1;clear hb1)
   | (go_at_call 30;(with_reducible refine (spec_TrmOk.calls k A1 c1 l1 true _ (Kd.C_below HA.out HB1.out) hc1 H1.out).mono ?_);rintro e w2 ⟨rfl,hb2⟩;have HB2:=Aside0.mk (HB1.out.trans (hb2.mono HB1.out.size));clear hb2)
   | (go_at_call 30;(with_reducible refine (spec_TrmOk.calls k A2 c2 l2 true _ (Kd.C_below HB.out HB2.out) hc2 H2.out).mono ?_);rintro e w3 ⟨rfl,hb3⟩;have HB3:=Aside0.mk (HB2.out.trans (hb3.mono HB2.out.size));clear hb3)
   | (go_at_call 87;(with_reducible refine (spec_l2Copy.calls k A0 c0 l0 s _ (Kd.C_below HS.out HB3.out) hc0 H3.out).mono ?_);rintro e w4 ⟨v4,rfl,ho4,hb4⟩;have HO4:=Aside0.mk (Kd.S_lower ho4 HB3.out.size);have HV4:=Aside0.mk (show ∀ k,k<w.heap.size→some k≠v4.ownBlock from fun k hk e=>(by have:=Kd.S_base ho4 k e.symm;have:=HB3.out.size;omega));have HB4:=Aside0.mk (HB3.out.trans (hb4.mono HB3.out.size));clear ho4 hb4)
   | (go_at_call 86;(with_reducible refine (spec_l2Meet.any w.heap.size v4 s _ k l1 l2 A1 A2 c1 c2 r1 r2 HO4.out HB4.out.size (Kd.F_mono (Kd.F_below HFA.out HB4.out) (fun k hk=>HV4.out k hk)) hc1 (Kd.F_mono (Kd.F_below HFB.out HB4.out) (fun k hk=>HV4.out k hk)) hc2 H4.out).mono ?_);rintro e w5 ⟨v5,rfl,ho5,hg5,_⟩;have HO5:=Aside0.mk ho5;have HB5:=Aside0.mk (HB4.out.grown hg5 HB4.out.size (Kd.S_base HO4.out));clear ho5 hg5))
  go_ret2
  exact ⟨_,rfl,HO5.out,HB5.out⟩
def impl_TrmCanon.l0:Nat→List Int→List (S46)→Int→Int→Option ((List (S46)))
 | 0,_,_,_,_=>none
 | k+1,x3,x4,x11,x12=>if x12<x11 then (if 0≤x12 then (if x12<(x4.length:Int) then (if ((rd_T46 x4 x12).f0)=1 then ((slices_Index_int.f k x3 ((rd_T46 x4 x12).f1)).bind fun t460=>(impl_TrmCanon.l0 k x3 (x4.set (x12:Int).toNat (⟨(rd_T46 x4 x12).f0,t460,(rd_T46 x4 x12).f2⟩:S46)) x11 (wrap64 (x12+1)))) else (impl_TrmCanon.l0 k x3 x4 x11 (wrap64 (x12+1)))) else (none)) else (none)) else (some x4)
def impl_TrmCanon.f (k:Nat) (l0:List (S46)):Option ((List (S46))):=(impl_TrmFree.f k l0).bind fun t452=>((slices_Clone_TrmCell.f l0).bind fun t455=>(impl_TrmCanon.l0 k t452 t455 (t455.length:Int) 0))
set_option maxHeartbeats 8000000 in
set_option maxRecDepth 100000 in
theorem impl_TrmCanon.calls (k:Nat) (A0:Option Addr) (c0:Nat) (l0:List (S46)) (r:List (S46)) (w:World) (hr0:Kd.C k46 w A0 l0.length l0) (hc0:l0.length≤c0) (h:impl_TrmCanon.f k l0=some r) :
  Calls Tryd.prog 45 #[.slice A0 l0.length c0] w fun e w'=>∃ v0_:Value,e = .returned (v0_)∧Kd.R k46 46 w' w.heap.size (fun _=>True) v0_ r∧Below w.heap.size w w':=by
 have HR0:=Aside0.mk hr0
 have HC0:=Aside0.mk hc0
 clear hr0 hc0
 have HB:=Aside0.mk (Below.refl w.heap.size w)
 have H:((impl_TrmFree.f k l0).bind fun t452=>((slices_Clone_TrmCell.f l0).bind fun t455=>(impl_TrmCanon.l0 k t452 t455 (t455.length:Int) 0)))=some r:=h
 clear h
 replace H:=Option.bind_eq_some_iff.mp H
 obtain ⟨t452,A20,H⟩:=H
 try dsimp only at H
 have A2:=Aside0.mk A20
 clear A20
 replace H:=Option.bind_eq_some_iff.mp H
 obtain ⟨t455,A30,H⟩:=H
 try dsimp only at H
 have A3:=Aside0.mk A30
 clear A30
 have H':=Aside0.mk H
 clear H
 go_enter Tryd.func45,Tryd.ntmps45
 go_wp2_with (first|(go_at_call 32;(with_reducible refine (impl_TrmFree.calls k _ _ l0 t452 _ ?side1 ?side2 A2.out).mono ?_);(case side1=>exact qz57);(case side2=>exact HC0.out);rintro e w4 ⟨v453,rfl,ho0,hb⟩;have n0_:=Aside0.mk (Kd.R_lower ho0 (below_size qz4));have n1_:=Aside0.mk (below_step qz4 hb);clear HB;have HO454:=n0_;have HB:=n1_;clear n0_ n1_;(try clear hb);(try clear hb2);(try clear hk);(try clear hi);(try clear ho0))|(go_at_call 55;(with_reducible refine (slices_Clone_TrmCell.calls _ _ l0 t455 _ ?side1 ?side2 A3.out).mono ?_);(case side1=>exact qz36);(case side2=>exact HC0.out);rintro e w5 ⟨v456,rfl,ho0,hb⟩;have n0_:=Aside0.mk (Kd.R_below (by (with_reducible repeat (first|apply Kd.R_alloc|apply Kd.R_drewN|apply Kd.R_drew));exact HO454.out) hb);have n1_:=Aside0.mk (Kd.R_lower ho0 (below_size qz4));have n2_:=Aside0.mk (below_step qz4 hb);clear HO454 HB;have HO454:=n0_;have HO457:=n1_;have HB:=n2_;clear n0_ n1_ n2_;(try clear hb);(try clear hb2);(try clear hk);(try clear hi);(try clear ho0);obtain ⟨Ao6,co6,eo6⟩:=Kd.R_slice HO457.out;subst eo6))
 go_loopg [12] k (fun kq v12 w'=>∃ (x4_1:List (S46)) (x12_1:Int),v12 = .int .i64 x12_1∧Aside0 (impl_TrmCanon.l0 kq t452 x4_1 (t455.length:Int) x12_1=some r)∧Aside0 (kq≤k)∧Aside0 (Kd.R (Kd.int .i64) 3 w' w.heap.size (fun _=>True) v453 t452)∧Aside0 (Kd.R k46 46 w' w.heap.size (fun _=>True) (.slice Ao6 t455.length co6) x4_1)∧Aside0 (Below w.heap.size w w'))
 case atStart=>exact ⟨(t455),(0),qz9,H',⟨Nat.le_refl _⟩,⟨by (with_reducible repeat (first|apply Kd.R_alloc|apply Kd.R_drewN|apply Kd.R_drew));exact HO454.out⟩,⟨by (with_reducible repeat (first|apply Kd.R_alloc|apply Kd.R_drewN|apply Kd.R_drew));exact HO457.out⟩,⟨qz5⟩⟩
 case round=>
  clear H'
  try clear p2
  try clear c3
  try clear c4
  try clear c5
  obtain ⟨x4_1,x12_1,rfl,HA,HK1,HO_3,HO_4,HB⟩:=hrel
  have hl4_1:=(Kd.R_reads' HO_4.out).1
  rw [hl4_1] at HO_4
  (try simp only [hl4_1])
  (try simp only [hl4_1] at HO_3)
  cases gk with
  | zero=>exact absurd HA.out (by simp [impl_TrmCanon.l0])
  | succ k1=>
   have H:=HA.out
   clear HA
   simp only [impl_TrmCanon.l0] at H
   by_cases c7:x12_1<(t455.length:Int)
   ·rw [if_pos c7] at H
    have c7b0:decide (x12_1<(t455.length:Int))=true:=decide_eq_true c7
    have c7b0x0:=c7b0
    try simp only [hl4_1] at c7b0x0
    clear c7
    by_cases c8:0≤x12_1
    ·rw [if_pos c8] at H
     have c8b0:decide (0≤x12_1)=true:=decide_eq_true c8
     clear c8
     by_cases c9:x12_1<(x4_1.length:Int)
     ·rw [if_pos c9] at H
      have c9b0:decide (x12_1<(x4_1.length:Int))=true:=decide_eq_true c9
      have c9b0x0:=c9b0
      try simp only [hl4_1] at c9b0x0
      clear c9
      by_cases c10:((rd_T46 x4_1 x12_1).f0)=1
      ·rw [if_pos c10] at H
       have c10b0:(((rd_T46 x4_1 x12_1).f0) == 1)=true:=beq_iff_eq.mpr c10
       have c10b1:(((rd_T46 x4_1 x12_1).f0) != 1)=false:=bne_eq_false_iff_eq.mpr c10
       clear c10
       replace H:=Option.bind_eq_some_iff.mp H
       obtain ⟨t460,A110,H⟩:=H
       try dsimp only at H
       have A11:=Aside0.mk A110
       clear A110
       obtain ⟨y461,hy461⟩:∃ y_:List (S46),y_=(x4_1.set (x12_1:Int).toNat (⟨(rd_T46 x4_1 x12_1).f0,t460,(rd_T46 x4_1 x12_1).f2⟩:S46)):=⟨_,rfl⟩
       replace H:(impl_TrmCanon.l0 k1 t452 y461 (t455.length:Int) (wrap64 (x12_1+1)))=some r:=by first|(rw [hy461];exact H)|exact H
       have Ny461:=Aside0.mk hy461
       clear hy461
       have H':=Aside0.mk H
       clear H
       have p458:0≤(x12_1:Int):=of_decide_eq_true qz6
       have q458:x12_1<(x4_1.length:Int):=of_decide_eq_true qz6
       obtain ⟨ad458,e458,hx458_0,hx458_1,hx458_2⟩:=at_T46 (Kd.R_reads' HO_4.out).2.2 x12_1 p458 q458
       cases e458
       replace p458:=eq_true p458
       replace q458:=eq_true q458
       have p459:0≤(x12_1:Int):=of_decide_eq_true qz6
       have q459:x12_1<(x4_1.length:Int):=of_decide_eq_true qz6
       obtain ⟨ad459,e459,hx459_0,hx459_1,hx459_2⟩:=at_T46 (Kd.R_reads' HO_4.out).2.2 x12_1 p459 q459
       obtain rfl:ad458=ad459:=(by injection e459)
       replace p459:=eq_true p459
       replace q459:=eq_true q459
       obtain ⟨Ao13,co13,eo13⟩:=Kd.R_slice HO_3.out
       subst eo13
       go_wp2_with (first|(go_at_call 83;(with_reducible refine (slices_Index_int.calls k1 _ _ t452 ((rd_T46 x4_1 x12_1).f1) t460 _ ?side1 ?side2 A11.out).mono ?_);(case side1=>exact qz71);(case side2=>exact (Kd.R_reads' HO_3.out).2.1);rintro e w' ⟨rfl,⟨nd,rfl⟩⟩;(try (rw [drewN_self wr];generalize hq_:World.drewN wr _=wr;have n0_:Aside0 (Kd.R (Kd.int .i64) 3 wr w.heap.size (fun _=>True) (.slice Ao13 t452.length co13) t452):=⟨by rw [← hq_];exact qz43⟩;have n1_:Aside0 (Kd.R k46 46 wr w.heap.size (fun _=>True) (.slice (some ad458) x4_1.length co6) x4_1):=⟨by rw [← hq_];exact qz87⟩;have n2_:Aside0 (Below w.heap.size w wr):=⟨by rw [← hq_];exact qz4⟩;clear HO_3 HO_4 HB hq_;have HO_3:=n0_;have HO_4:=n1_;have HB:=n2_;clear n0_ n1_ n2_));have p12:0≤(x12_1:Int):=of_decide_eq_true qz6;have q12:(x12_1:Int)<((x4_1.length:Int):Int):=of_decide_eq_true qz6;obtain ⟨go12,co12,eo12,gb12,gl12,cl12,HG12⟩:=Kd.R_form HO_4.out (by omega);(first|cases eo12|(injection eo12 with ea_ en_ ec_;(first|subst ea_|(injection ea_ with ea_;subst ea_));subst ec_;clear en_));have GB12:=Aside0.mk gb12;have GG12:=Aside0.mk HG12;clear gb12 gl12 HG12;(first|simp only [add_plain] at hx458_0|skip);(first|simp only [add_plain] at hx458_1|skip);(first|simp only [add_plain] at hx458_2|skip);(first|simp only [add_plain] at hx459_0|skip);(first|simp only [add_plain] at hx459_1|skip);(first|simp only [add_plain] at hx459_2|skip);obtain ⟨ce12,hcl12,hM12,hcc12,hfr12⟩:=Kd.R_elem HO_4.out z46 (x12_1:Int) p12 q12;obtain rfl:=k46_openM hM12;have hx12_0:wr.cell? ⟨go12,(x12_1:Int).toNat * 3,none⟩=some (.int .i64 ((rd_T46 x4_1 x12_1).f0)):=hcc12 0 _ rfl;have hx12_1:wr.cell? ⟨go12,(x12_1:Int).toNat * 3+1,none⟩=some (.int .i64 ((rd_T46 x4_1 x12_1).f1)):=hcc12 1 _ rfl;have hx12_2:wr.cell? ⟨go12,(x12_1:Int).toNat * 3+2,none⟩=some (.string ((rd_T46 x4_1 x12_1).f2)):=hcc12 2 _ rfl;have hf12_0:wr.frozen? ⟨go12,(x12_1:Int).toNat * 3,none⟩=false:=hfr12 0;have hf12_1:wr.frozen? ⟨go12,(x12_1:Int).toNat * 3+1,none⟩=false:=hfr12 1;have hf12_2:wr.frozen? ⟨go12,(x12_1:Int).toNat * 3+2,none⟩=false:=hfr12 2;(try clear hcl12);(try clear hcc12);(try clear hfr12);(try clear hM12);replace p12:=eq_true p12;replace q12:=eq_true q12;have HX14:=Aside0.mk (show Kd.R k46 46 wr w.heap.size (fun _=>True) (.slice (some ⟨go12,0,none⟩) x4_1.length co6) x4_1 from qz87);obtain ⟨ce14,hcl14,hM14,hcc14,hfr14⟩:=Kd.R_elem HX14.out z46 (x12_1:Int) (of_decide_eq_true qz6) (by have h_:(x12_1:Int)<((x4_1.length:Int):Int):=of_decide_eq_true qz6;first|exact h_|(have e_:=(Kd.R_reads' HO_4.out).1;omega)|simpa using h_);obtain rfl:=k46_openM hM14;have HP14:=Kd.R_seg HX14.out (x12_1:Int) (of_decide_eq_true qz6) (by have h_:(x12_1:Int)<((x4_1.length:Int):Int):=of_decide_eq_true qz6;first|exact h_|(have e_:=(Kd.R_reads' HO_4.out).1;omega)|simpa using h_) (seg:=[.int .i64 t460]) (j:=1) hcl14 hcc14 (show 2≤3 from by decide) (x':=(⟨(rd_T46 x4_1 x12_1).f0,t460,(rd_T46 x4_1 x12_1).f2⟩:S46)) (k46_mkM _ _ _ (⟨(rd_T46 x4_1 x12_1).f0,t460,(rd_T46 x4_1 x12_1).f2⟩:S46) ) (fun _ hk=>hk);have hx14_1:=hcc14 1 _ rfl;(try simp only [show (k46).sz=3 from rfl,Nat.mul_one,Nat.add_zero] at hx14_1);have hf14_1:=hfr14 1;(try simp only [show (k46).sz=3 from rfl,Nat.mul_one,Nat.add_zero] at hf14_1);clear hcl14 hcc14 hfr14 hM14)|((with_reducible refine gate_store (t:=3) (p:=31) rfl ?_);refine store_event (t:=3) (p:=31) (v:=?vo_w15) (w1:=(wr.setCell ⟨go12,(x12_1:Int).toNat * 3+1,none⟩ (.int .i64 t460))) ?hg ?ho ?hn ?hr ?_;(case ho=>rfl);(case hg=>rfl);(case hn=>rfl);(case hr=>first|(go_simp;done)|(go_simp;rfl));intro w15 hw;have hg:wr.grownBy w15 (some go12):=(by rw [hw];exact HP14.2);have hp_:Kd.R k46 46 w15 w.heap.size (fun _=>True) (.slice (some ⟨go12,0,none⟩) x4_1.length co6) y461:=(by rw [hw,Ny461.out];exact HP14.1);clear HP14;have n0_:=Aside0.mk (Kd.R_over' (v:=(.slice (some ⟨go12,0,none⟩) x4_1.length co6)) qz43 (Kd.R_typed HO_4.out) (by decide) hg);have n1_:=Aside0.mk (hp_);have n2_:=Aside0.mk ((by rw [hw];exact below_set (HB.out) GB12.out:Below w.heap.size w w15));clear HO_3 HO_4 HB;have HO_3:=n0_;have HO_4:=n1_;have HB:=n2_;clear n0_ n1_ n2_ hg hw hp_))
       (try simp only [← hl4_1])
       go_roundg k1
       case measure=>have:=HK1.out;omega
       case rel=>exact ⟨(y461),(wrap64 (x12_1+1)),qz9,H',⟨by have:=HK1.out;omega⟩,⟨qz114⟩,⟨qz113⟩,⟨qz5⟩⟩
      ·rw [if_neg c10] at H
       have c10b0:(((rd_T46 x4_1 x12_1).f0) == 1)=false:=beq_eq_false_iff_ne.mpr c10
       have c10b1:(((rd_T46 x4_1 x12_1).f0) != 1)=true:=bne_iff_ne.mpr c10
       have H':=Aside0.mk H
       clear H
       have p458:0≤(x12_1:Int):=of_decide_eq_true qz6
       have q458:x12_1<(x4_1.length:Int):=of_decide_eq_true qz6
       obtain ⟨ad458,e458,hx458_0,hx458_1,hx458_2⟩:=at_T46 (Kd.R_reads' HO_4.out).2.2 x12_1 p458 q458
       cases e458
       replace p458:=eq_true p458
       replace q458:=eq_true q458
       go_wp2
       (try simp only [← hl4_1])
       go_roundg k1
       case measure=>have:=HK1.out;omega
       case rel=>exact ⟨(x4_1),(wrap64 (x12_1+1)),qz9,H',⟨by have:=HK1.out;omega⟩,⟨qz114⟩,⟨qz113⟩,⟨qz5⟩⟩
     ·rw [if_neg c9] at H
      exact absurd H (by simp)
    ·rw [if_neg c8] at H
     exact absurd H (by simp)
   ·rw [if_neg c7] at H
    have c7b0:decide (x12_1<(t455.length:Int))=false:=decide_eq_false c7
    have c7b0x0:=c7b0
    try simp only [hl4_1] at c7b0x0
    clear c7
    obtain rfl:=Option.some.inj H
    go_wp2
    go_ret
    exact ⟨_,qz7,qz87,qz5⟩
end Go.Proofs.YtlaicnoikeieeaaDoor.P
