/- Contracts of functions of the program: each as a Lean function, and that its call does what that says; printed by cprint.py (this session) over print.py of the kit. Conditions: the hypotheses of each theorem. -/
import Derived.Test.YtlaicnoikeieeaaDoorVZ
import Derived.Test.YtlaicnoikeieeaaDoorP0
import Derived.Test.YtlaicnoikeieeaaDoorP2
import Derived.Test.YtlaicnoikeieeaaDoorP3
import Derived.Test.YtlaicnoikeieeaaDoorP8
namespace Go.Proofs.YtlaicnoikeieeaaDoor.P
open Go.RowKit Go.Proofs.YtlaicnoikeieeaaDoorW.PrintWords Go.Proofs.YtlaicnoikeieeaaDoorW.PrintLast Go.Proofs.YtlaicnoikeieeaaDoorW.PrintMore
attribute [local go_sem] max2_int min2_int max_two min_two max_three min_three max_four min_four   -- for this text's walks alone
set_option linter.unusedVariables false
set_option linter.unusedSimpArgs false

/-! ### impl_SubOk: function 26 -/
/-- whether a variable leads to itself, as the program goes through -/
def impl_SubOk.lF (K:Nat) (kn:Int→List Cat.Cell):Nat→(Int→Int)→Int→Option (Bool × (Int→Int))
 | 0,_,_=>none
 | k+1,v,a=>if 0≤a∧a≤99999 then (if v a=1 then some (true,v) else if v a=2 then some (false,v) else
   (impl_TrmFree.f K (kn a)).bind fun fr=>(Cat.loopsL (impl_SubOk.lF K kn k) (Cat.upd v a 1) fr).bind fun r=>if r.1=true then some r else some (false,Cat.upd r.2 a 2)) else none
/-- how far a variable was gone through, as a map -/
def visF (v:Int→Int):Int→Option Value:=fun z=>if v z=0 then none else some (.int .i64 (v z))
theorem visF_upd (v:Int→Int) (a x:Int) (hx:x≠0):Cat.upd (visF v) a (some (.int .i64 x))=visF (Cat.upd v a x):=by
 funext z
 unfold visF Cat.upd
 by_cases e:z=a
 ·simp [e,hx]
 ·simp [e]
theorem visF_get (v:Int→Int) (z:Int):(visF v z).getD (.int .i64 0) = .int .i64 (v z):=by
 unfold visF
 by_cases e:v z=0
 ·rw [if_pos e,e];rfl
 ·rw [if_neg e];rfl
theorem zero_int (w:World):(zeroValue 3).run Tryd.prog w = .ok (.int .i64 0) w:=by kernel_rfl
theorem zero_cells (w:World):(zeroValue 26).run Tryd.prog w = .ok (.slice none 0 0) w:=by kernel_rfl
/-- what is known of a variable, in memory -/
def Known (w:World) (Kn:Int→Option Value) (kn:Int→List Cat.Cell):Prop:=
 ∀ z,(Kn z=none∧kn z=[])∨∃ A c,Kn z=some (.slice A (kn z).length c)∧(kn z).length≤c∧Kd.C k46 w A (kn z).length (kn z)
theorem known_get {w:World} {Kn:Int→Option Value} {kn:Int→List Cat.Cell} (h:Known w Kn kn) (z:Int):∃ A c,(Kn z).getD (.slice none 0 0) = .slice A (kn z).length c∧(kn z).length≤c∧Kd.C k46 w A (kn z).length (kn z):=by
 rcases h z with ⟨h1,h2⟩|⟨A,c,h1,h2,h3⟩
 ·exact ⟨none,0,by rw [h1,h2];rfl,by rw [h2];exact Nat.le_refl _,by rw [h2];exact Kd.C_nil _ _⟩
 ·exact ⟨A,c,by rw [h1];rfl,h2,h3⟩
theorem int_at {w:World} {A:Option Addr} {n:Nat} {xs:List Int} (h:Kd.C (Kd.int .i64) w A n xs) (i:Nat) (h1:i<n):∃ ad,A=some ad∧w.cell? (ad.add i)=some (.int .i64 (xs.getD i 0)):=by
 obtain ⟨ad,c,e,_,hK,hc0⟩:=Kd.C_get h 0 (i:Int) (by omega) (by omega)
 have hc:∀ j u,c[j]?=some u→w.cell? (ad.add (i * 1+j))=some u:=hc0
 have e2:c=[.int .i64 (xs.getD i 0)]:=hK
 subst e2
 exact ⟨ad,e,by have:=hc 0 _ rfl;rwa [Nat.mul_one,Nat.add_zero] at this⟩
set_option maxHeartbeats 8000000 in
set_option maxRecDepth 100000 in
theorem visit_loops (K:Nat) (kn:Int→List Cat.Cell) (Kn:Int→Option Value) (w0:World) (bv bk:Nat)
  (hk:∀ W,w0.grownBy W (some bv)→Mp.MapIs Tryd.prog 3 W bk Kn∧Known W Kn kn) :
  ∀ (k:Nat) (v:Int→Int) (a:Int) (b:Bool) (v':Int→Int) (W:World),impl_SubOk.lF K kn k v a=some (b,v')→Mp.MapIs Tryd.prog 3 W bv (visF v)→w0.grownBy W (some bv)→
   Calls Tryd.prog 64 #[.map (some bv),.map (some bk),.int .i64 a] W fun e w'=>e = .returned (.bool b)∧Mp.MapIs Tryd.prog 3 w' bv (visF v')∧W.grownBy w' (some bv):=by
 intro k
 induction k with
 | zero=>intro v a b v' W h;cases h
 | succ k ih=>
  intro v a b v' W h hm hg
  rw [impl_SubOk.lF] at h
  by_cases hr:0≤a∧a≤99999
  case neg=>rw [if_neg hr] at h;cases h
  rw [if_pos hr] at h
  obtain ⟨a0,a1⟩:=hr
  have hwf:(Lit.int .i64 a).wf=true:=WalkArith.wf_i64 (by omega)
  have HM:=Aside0.mk hm
  have HG:=Aside0.mk hg
  have HW:=Aside0.mk hwf
  have HK:=Aside0.mk hk
  have HI:=Aside0.mk ih
  clear hm hg hwf hk ih
  have hu3:=Tryd.underlying3
  by_cases h1:v a=1
  ·rw [if_pos h1] at h
   simp only [Option.some.injEq,Prod.mk.injEq] at h
   obtain ⟨rfl,rfl⟩:=h
   have H1:=Aside0.mk h1
   clear h1
   go_enter Tryd.func64,Tryd.ntmps64
   go_wp2_with (at_lookup;refine Mp.wpList_lookup_is rfl _ _ _ _ rfl 3 3 hu3 Tryd.underlying79 _ (zero_int _) bv (visF v) rfl HM.out a rfl HW.out ?_;simp only [Bool.false_eq_true,if_false];rw [visF_get,H1.out])
   go_ret
   exact ⟨rfl,HM.out,⟨rfl,rfl,rfl,Nat.le_refl _,fun _ _ _=>rfl⟩⟩
  ·rw [if_neg h1] at h
   by_cases h2:v a=2
   ·rw [if_pos h2] at h
    simp only [Option.some.injEq,Prod.mk.injEq] at h
    obtain ⟨rfl,rfl⟩:=h
    have H2:=Aside0.mk h2
    clear h1 h2
    go_enter Tryd.func64,Tryd.ntmps64
    go_wp2_with (at_lookup;refine Mp.wpList_lookup_is rfl _ _ _ _ rfl 3 3 hu3 Tryd.underlying79 _ (zero_int _) bv (visF v) rfl HM.out a rfl HW.out ?_;simp only [Bool.false_eq_true,if_false];rw [visF_get,H2.out])
    go_ret
    exact ⟨rfl,HM.out,grown_nothing _ _⟩
   ·rw [if_neg h2] at h
    cases e1:impl_TrmFree.f K (kn a) with
    | none=>rw [e1] at h;cases h
    | some fr=>
    rw [e1] at h
    simp only [Option.bind_some] at h
    cases e2:Cat.loopsL (impl_SubOk.lF K kn k) (Cat.upd v a 1) fr with
    | none=>rw [e2] at h;cases h
    | some q=>
    obtain ⟨b1,v1⟩:=q
    rw [e2] at h
    simp only [Option.bind_some] at h
    have E1:=Aside0.mk e1
    have E2:=Aside0.mk e2
    have E3:=Aside0.mk h
    have t1:(v a == 1)=false:=beq_eq_false_iff_ne.2 h1
    have t2:(v a == 2)=false:=beq_eq_false_iff_ne.2 h2
    clear h h1 h2 e1 e2
    generalize hva:v a=va at t1 t2
    have HV:=Aside0.mk hva
    clear hva
    go_enter Tryd.func64,Tryd.ntmps64
    go_wp2_with (first
     | (at_lookup;refine Mp.wpList_lookup_is rfl (.tmp 9) (.tmp 10) _ _ rfl 3 3 hu3 Tryd.underlying79 _ (zero_int _) bv (visF v) rfl HM.out a rfl HW.out ?_;simp only [Bool.false_eq_true,if_false];rw [visF_get,HV.out])
     | (at_mapUpdate;refine Mp.wpList_mapUpdate_is rfl (.tmp 16) (.tmp 17) _ _ rfl 3 3 hu3 Tryd.underlying79 bv (visF v) rfl HM.out a rfl a0 a1 (.int .i64 1) rfl ?_;intro w1 hm1 hg1;rw [visF_upd v a 1 (by decide)] at hm1;have HM1:=Aside0.mk hm1;have HG1:=Aside0.mk hg1;obtain ⟨hk1,hk2⟩:=HK.out w1 (grown_both HG.out hg1);have HK1:=Aside0.mk hk1;obtain ⟨A,c,ev,hl,hC⟩:=known_get hk2 a;have HEV:=Aside0.mk ev;have HL:=Aside0.mk hl;have HC:=Aside0.mk hC;clear hm1 hg1 hk1 hk2 ev hl hC)
     | (at_lookup;refine Mp.wpList_lookup_is rfl (.tmp 18) (.tmp 19) _ _ rfl 3 26 hu3 Tryd.underlying77 _ (zero_cells _) bk Kn rfl HK1.out a rfl HW.out ?_;simp only [Bool.false_eq_true,if_false];rw [HEV.out])
     | (go_at_call 32;refine (impl_TrmFree.calls K A c (kn a) fr _ HC.out HL.out E1.out).mono ?_;rintro e w2 ⟨v0,rfl,ho,hb⟩;obtain ⟨A',c',rfl⟩:=Kd.R_slice ho;have HO:=Aside0.mk ho;have HB:=Aside0.mk hb;clear ho hb))
    have hmax:fr.length≤9223372036854775807:=(Kd.R_reads' HO.out).2.2.2.1
    have hbv:bv<w1.heap.size:=HM1.out.lt
    have HR0:=Aside0.mk (Kd.R_mono (ok':=fun k_=>w1.heap.size≤k_) (Kd.R_bound HO.out) (fun k_ hk_=>hk_.2.1))
    have HM2:=Aside0.mk (HM1.out.step HB.out)
    have HG2:=Aside0.mk (grown_both HG1.out (grown_below HB.out (some bv)))
    clear HO
    go_loopg [8,23] fr.length (fun gg _ s23 wr=>∃ (j:Nat) (vj:Int→Int),j≤fr.length∧fr.length - j≤gg∧s23 = .int .i64 j∧Aside0 (Mp.MapIs Tryd.prog 3 wr bv (visF vj))∧Aside0 (W.grownBy wr (some bv))∧
     Aside0 (Kd.R (Kd.int .i64) 3 wr w1.heap.size (fun k_=>w1.heap.size≤k_) (.slice A' fr.length c') fr)∧Aside0 (Cat.loopsL (impl_SubOk.lF K kn k) vj (fr.drop j)=some (b1,v1)))
    case atStart=>exact ⟨0,Cat.upd v a 1,Nat.zero_le _,by omega,rfl,HM2,HG2,HR0,⟨by rw [List.drop_zero];exact E2.out⟩⟩
    case round=>
     obtain ⟨j,vj,hj,hgg,rfl,HMJ,HGJ,HRJ,HLJ⟩:=hrel
     by_cases hlt:j<fr.length
     ·have hltz:(j:Int)<(fr.length:Int):=by omega
      have hl:=HLJ.out
      rw [List.drop_eq_getElem_cons hlt,Cat.loopsL] at hl
      cases ex:impl_SubOk.lF K kn k vj fr[j] with
      | none=>rw [ex] at hl;cases hl
      | some q=>
      obtain ⟨bx,vx⟩:=q
      rw [ex] at hl
      simp only [Option.bind_some] at hl
      have hcall:=HI.out vj fr[j] bx vx wr ex HMJ.out (grown_both HG.out HGJ.out)
      obtain ⟨ad,e1,hx0⟩:=int_at (Kd.R_reads' HRJ.out).2.2 j hlt
      have ey:fr.getD j 0=fr[j]:=by simp [List.getD,hlt]
      rw [ey] at hx0
      generalize fr[j]=y at hx0 hcall ex
      cases e1
      have HLL:=Aside0.mk hl
      clear hl ex ey
      cases bx with
      | true=>
       go_wp2_with (go_at_call 64;refine hcall.mono ?_;rintro e w' ⟨rfl,hm',hg'⟩;have HM':=Aside0.mk hm';have HG':=Aside0.mk hg';clear hm' hg')
       go_ret
       have h1:=HLL.out
       rw [if_pos (by simp)] at h1
       obtain ⟨rfl,rfl⟩:=Prod.mk.inj (Option.some.inj h1)
       have h2:=E3.out
       rw [if_pos (by simp)] at h2
       obtain ⟨rfl,rfl⟩:=Prod.mk.inj (Option.some.inj h2)
       exact ⟨rfl,HM'.out,grown_both HGJ.out HG'.out⟩
      | false=>
       go_wp2_with (go_at_call 64;refine hcall.mono ?_;rintro e w' ⟨rfl,hm',hg'⟩;have HM':=Aside0.mk hm';have HG':=Aside0.mk hg';clear hm' hg')
       go_roundg (fr.length - (j+1))
       case measure=>omega
       case rel=>
        refine ⟨j+1,vx,by omega,by omega,by go_num,HM',⟨grown_both HGJ.out HG'.out⟩,⟨Kd.R_step HRJ.out (fun k_ hk_ hl_=>HG'.out.block k_ hl_ (fun e_=>by injection e_ with e_;omega))⟩,⟨?_⟩⟩
        have h1:=HLL.out
        rwa [if_neg (by simp)] at h1
     ·have hltz:¬ (j:Int)<(fr.length:Int):=by omega
      have hl:=HLJ.out
      rw [List.drop_eq_nil_of_le (by omega),Cat.loopsL] at hl
      obtain ⟨rfl,rfl⟩:=Prod.mk.inj (Option.some.inj hl)
      have h2:=E3.out
      rw [if_neg (by simp)] at h2
      obtain ⟨rfl,rfl⟩:=Prod.mk.inj (Option.some.inj h2)
      clear hl h2
      go_wp2_with (at_mapUpdate;refine Mp.wpList_mapUpdate_is rfl (.tmp 32) (.tmp 33) _ _ rfl 3 3 hu3 Tryd.underlying79 bv (visF vj) rfl HMJ.out a rfl a0 a1 (.int .i64 2) rfl ?_;intro w3 hm3 hg3;rw [visF_upd vj a 2 (by decide)] at hm3;have HM3:=Aside0.mk hm3;have HG3:=Aside0.mk hg3;clear hm3 hg3)
      go_ret
      exact ⟨rfl,HM3.out,grown_both HGJ.out HG3.out⟩
set_option maxHeartbeats 4000000 in
set_option maxRecDepth 100000 in
theorem subok_pred (K:Nat) (kn:Int→List Cat.Cell) (Kn:Int→Option Value) (w:World) (bv bk gv gk:Nat)
  (hk:∀ W,w.grownBy W (some bv)→Mp.MapIs Tryd.prog 3 W bk Kn∧Known W Kn kn)
  (hc:∀ W,w.grownBy W (some bv)→W.cell? ⟨gv,0,none⟩=some (.map (some bv))∧W.cell? ⟨gk,0,none⟩=some (.map (some bk))) :
  PredB 63 #[.pointer (some ⟨gv,0,none⟩),.pointer (some ⟨gk,0,none⟩)] (some bv) (fun v x=>impl_SubOk.lF K kn K v x.f0) (fun v W=>Mp.MapIs Tryd.prog 3 W bv (visF v)) w:=by
 intro s s' x b W A c h hg hJ hl hC
 obtain ⟨hcv,hck⟩:=hc W hg
 have hlv:=World.block_lt_of_cell? W _ hcv
 have hlk:=World.block_lt_of_cell? W _ hck
 have hlv:gv<W.heap.size:=hlv
 have hlk:gk<W.heap.size:=hlk
 have hB:∀ o,Below W.heap.size W (W.alloc o):=fun o=>(Below.refl _ _).alloc (Nat.le_refl _) o
 have HL:=Aside0.mk (fun o=>visit_loops K kn Kn w bv bk hk K s x.f0 b s' (W.alloc o) h (hJ.step (hB o)) (grown_both hg (grown_below (hB o) _)))
 have HB:=Aside0.mk hB
 clear h hJ hl hC hk hc hg hB
 show Calls Tryd.prog 63 #[.agg #[.int .i64 x.f0,.slice A x.f1.length c],.pointer (some ⟨gv,0,none⟩),.pointer (some ⟨gk,0,none⟩)] W _
 go_enter Tryd.func63,Tryd.ntmps63
 go_wp2_with (go_at_call 64;refine (HL.out _).mono ?_;rintro e w' ⟨rfl,hm',hg'⟩;have HM':=Aside0.mk hm';have HG':=Aside0.mk hg';clear hm' hg')
 go_ret
 exact ⟨rfl,HM'.out,grown_both (grown_below (HB.out _) _) HG'.out⟩
/-- the bindings one by one, as the program looks at them: what is known then; none, if one is not ok -/
def impl_SubOk.go:(Int→Option (List Cat.Cell))→List Cat.Bind→Option (Int→Option (List Cat.Cell))
 | kn,[]=>some kn
 | kn,b :: s=>if (kn b.f0).isSome=true∨¬ (0≤b.f0∧b.f0≤99999)∨Cat.isTerm b.f1=false then none else impl_SubOk.go (Cat.upd kn b.f0 (some b.f1)) s
def impl_SubOk.f (K:Nat) (l0:List (S30)):Option Bool:=
 if (l0.all fun b=>(Lit.int .i64 b.f0).wf)=true then match impl_SubOk.go (fun _=>none) l0 with
 | none=>some false
 | some kn=>(anyS (fun v (x:Cat.Bind)=>impl_SubOk.lF K (fun z=>(kn z).getD []) K v x.f0) (fun _=>0) l0).map fun r=>!r.1
 else none
/-- what is known, in memory: the terms lie in w0 -/
def Knows (w0 w:World) (b:Nat) (kn:Int→Option (List Cat.Cell)):Prop:=
 ∃ Kn,Mp.MapIs Tryd.prog 3 w b Kn∧∀ z,(Kn z=none∧kn z=none)∨∃ A t c,kn z=some t∧Kn z=some (.slice A t.length c)∧t.length≤c∧Kd.C k46 w0 A t.length t
set_option maxHeartbeats 8000000 in
set_option maxRecDepth 100000 in
theorem impl_SubOk.calls (k:Nat) (A0:Option Addr) (c0:Nat) (l0:List (S30)) (r:Bool) (w:World) (hr0:Kd.C k30 w A0 l0.length l0) (hc0:l0.length≤c0) (h:impl_SubOk.f k l0=some r) :
  Calls Tryd.prog 26 #[.slice A0 l0.length c0] w fun e w'=>e = .returned (.bool r)∧Below w.heap.size w w':=by
 have HR:=Aside0.mk hr0
 unfold impl_SubOk.f at h
 by_cases hw0:(l0.all fun b=>(Lit.int .i64 b.f0).wf)=true
 case neg=>rw [if_neg hw0] at h;cases h
 rw [if_pos hw0] at h
 have HW0:=Aside0.mk (List.all_eq_true.1 hw0)
 have HH:=Aside0.mk h
 have hm:l0.length≤9223372036854775807:=hr0.2.1
 have hu3:=Tryd.underlying3
 have hmm:=@run_makeMap Tryd.prog
 clear hr0 h hw0
 go_enter Tryd.func26,Tryd.ntmps26
 go_wp2
 have hB1:Below w.heap.size w ((w.alloc (.map #[] 0)).alloc (.cells #[.map (some w.heap.size)] 77)):=((Below.refl _ w).alloc (Nat.le_refl _) _).alloc (by simp) _
 have hc1:((w.alloc (.map #[] 0)).alloc (.cells #[.map (some w.heap.size)] 77)).cell? ⟨w.heap.size+1,0,none⟩=some (.map (some w.heap.size)):=by simp [go_sem]
 have hk1:Knows w ((w.alloc (.map #[] 0)).alloc (.cells #[.map (some w.heap.size)] 77)) w.heap.size (fun _=>none):=
  ⟨fun _=>none,(Mp.MapIs.made _ _ w).step ((Below.refl _ _).alloc (Nat.le_refl _) _),fun z=>.inl ⟨rfl,rfl⟩⟩
 generalize ((w.alloc (.map #[] 0)).alloc (.cells #[.map (some w.heap.size)] 77))=W1 at hB1 hc1 hk1 ⊢
 have HB1:=Aside0.mk hB1
 have HC1:=Aside0.mk hc1
 have HK1:=Aside0.mk hk1
 clear hB1 hc1 hk1
 have hz0:(w.heap.size:Nat)<w.heap.size+1:=Nat.lt_succ_self _
 go_loopg [5,6,7,12,16] l0.length (fun gg _ _ _ s12 _ wr=>∃ (j:Nat) (kn:Int→Option (List Cat.Cell)),j≤l0.length∧l0.length - j≤gg∧s12 = .int .i64 j∧Aside0 (Below w.heap.size w wr)∧Aside0 (wr.cell? ⟨w.heap.size+1,0,none⟩=some (.map (some w.heap.size)))∧
  Aside0 (Knows w wr w.heap.size kn)∧Aside0 (impl_SubOk.go (fun _=>none) l0=impl_SubOk.go kn (l0.drop j)))
 case atStart=>exact ⟨0,fun _=>none,Nat.zero_le _,by omega,rfl,HB1,HC1,HK1,⟨by rw [List.drop_zero]⟩⟩
 case round=>
  obtain ⟨j,kn,hj,hgg,rfl,BW,CW,KW,GW⟩:=hrel
  by_cases hlt:j<l0.length
  ·have hltz:(j:Int)<(l0.length:Int):=by omega
   obtain ⟨ad,A1,c1,e1,hx0,hx1,hl1,hC1⟩:=at_T30 HR.out (j:Int) (by omega) hltz
   cases e1
   rw [Int.toNat_natCast] at hx0 hx1
   have ey:rd_T30 l0 (j:Int)=l0[j]:=by simp [rd_T30,List.getD,hlt]
   rw [ey] at hx0 hx1 hl1 hC1
   replace hx0:=(BW.out.cell (World.block_lt_of_cell? w _ hx0)).trans hx0
   replace hx1:=(BW.out.cell (World.block_lt_of_cell? w _ hx1)).trans hx1
   have hgo:=GW.out
   rw [List.drop_eq_getElem_cons hlt,impl_SubOk.go] at hgo
   have hwf:=HW0.out l0[j] (List.getElem_mem hlt)
   generalize l0[j]=x at hx0 hx1 hl1 hC1 hgo hwf
   have HWF:=Aside0.mk hwf
   clear hwf
   have hck:=CW.out
   have hlk:w.heap.size+1<wr.heap.size:=World.block_lt_of_cell? wr _ hck
   have had:=World.block_lt_of_cell? wr _ hx0
   rw [add_block] at had
   have HBA:∀ o,Aside0 (Below wr.heap.size wr (wr.alloc o)):=fun o=>⟨(Below.refl _ _).alloc (Nat.le_refl _) o⟩
   have HBD:∀ o n,Aside0 (Below wr.heap.size wr ((wr.alloc o).drewN n)):=fun o n=>⟨pw_below_drewN (HBA o).out n⟩
   obtain ⟨Kn,hKm,hKk⟩:=KW.out
   have HKM:=Aside0.mk hKm
   have HGO:=Aside0.mk hgo
   have HL1:=Aside0.mk hl1
   have HCC:=Aside0.mk hC1
   have HKK:=Aside0.mk hKk
   clear hKm hgo hl1 hC1 ey hKk
   by_cases hs:(kn x.f0).isSome=true
   ·obtain ⟨v,hv⟩:∃ v,Kn x.f0=some v:=by
     rcases HKK.out x.f0 with ⟨_,h2⟩|⟨A,t,c,_,h2,_⟩
     ·rw [h2] at hs;cases hs
     ·exact ⟨_,h2⟩
    have HV:=Aside0.mk hv
    have HG1:=Aside0.mk (HGO.out.trans (if_pos (.inl hs)))
    clear hv hs
    go_wp2_with (at_lookup;refine Mp.wpList_lookup_is rfl (.tmp 17) (.tmp 19) _ _ rfl 3 26 hu3 Tryd.underlying77 _ (zero_cells _) w.heap.size Kn rfl (HKM.out.step (HBA _).out) x.f0 rfl HWF.out ?_;simp only [if_true];rw [HV.out];simp only [Option.getD_some,Option.isSome_some])
    go_ret
    have h1:=HH.out
    rw [HG1.out] at h1
    exact ⟨by rw [← Option.some.inj h1];rfl,BW.out.trans ((HBA _).out.mono BW.out.size)⟩
   ·have hv:Kn x.f0=none:=by
     rcases HKK.out x.f0 with ⟨h1,_⟩|⟨A,t,c,h2,_⟩
     ·exact h1
     ·rw [h2] at hs;exact absurd rfl hs
    have HV:=Aside0.mk hv
    have HS:=Aside0.mk hs
    clear hv hs
    by_cases hr:0≤x.f0∧x.f0≤99999
    case neg=>
     have HG1:=Aside0.mk (HGO.out.trans (if_pos (.inr (.inl hr))))
     have HI:=Aside0.mk (show impl_in.f x.f0 0 99999=some false by rw [in_pure,decide_eq_false hr])
     clear hr
     go_wp2_with (first
      | (at_lookup;refine Mp.wpList_lookup_is rfl (.tmp 17) (.tmp 19) _ _ rfl 3 26 hu3 Tryd.underlying77 _ (zero_cells _) w.heap.size Kn rfl (HKM.out.step (HBA _).out) x.f0 rfl HWF.out ?_;simp only [if_true];rw [HV.out];simp only [Option.getD_none,Option.isSome_none])
      | (go_at_call 61;refine (impl_in.calls _ _ _ _ _ HI.out).mono ?_;rintro e w' ⟨rfl,hd⟩;obtain ⟨⟨nd,rfl⟩⟩:=hd))
     go_ret
     have h1:=HH.out
     rw [HG1.out] at h1
     exact ⟨by rw [← Option.some.inj h1];rfl,BW.out.trans ((HBD _ _).out.mono BW.out.size)⟩
    case pos=>
     have HI:=Aside0.mk (show impl_in.f x.f0 0 99999=some true by rw [in_pure,decide_eq_true hr])
     cases ht:Cat.isTerm x.f1 with
     | false=>
      have HG1:=Aside0.mk (HGO.out.trans (if_pos (.inr (.inr ht))))
      have HT:=Aside0.mk (show impl_TrmOk.f x.f1=some false from congrArg some ht)
      clear hr ht
      go_wp2_with (first
       | (at_lookup;refine Mp.wpList_lookup_is rfl (.tmp 17) (.tmp 19) _ _ rfl 3 26 hu3 Tryd.underlying77 _ (zero_cells _) w.heap.size Kn rfl (HKM.out.step (HBA _).out) x.f0 rfl HWF.out ?_;simp only [if_true];rw [HV.out];simp only [Option.getD_none,Option.isSome_none])
       | (go_at_call 61;refine (impl_in.calls _ _ _ _ _ HI.out).mono ?_;rintro e w' ⟨rfl,hd⟩;obtain ⟨⟨nd,rfl⟩⟩:=hd)
       | (go_at_call 42;refine (impl_TrmOk.calls A1 c1 x.f1 false _ (Kd.C_below HCC.out (BW.out.trans ((HBD _ _).out.mono BW.out.size))) HL1.out HT.out).mono ?_;rintro e w' ⟨rfl,hb⟩;have HB':=Aside0.mk hb;clear hb))
      go_ret
      have h1:=HH.out
      rw [HG1.out] at h1
      exact ⟨by rw [← Option.some.inj h1];rfl,BW.out.trans (((HBD _ _).out.trans (HB'.out.mono (HBD _ _).out.size)).mono BW.out.size)⟩
     | true=>
      have HG1:=Aside0.mk (HGO.out.trans (if_neg (fun e=>e.elim HS.out (fun e=>e.elim (fun e=>e hr) (fun e=>by rw [ht] at e;cases e)))))
      have HT:=Aside0.mk (show impl_TrmOk.f x.f1=some true from congrArg some ht)
      obtain ⟨r0,r1⟩:=hr
      clear ht
      have hAx:=Aside0.mk (show ∀ W,Below wr.heap.size wr W→Mp.MapIs Tryd.prog 3 W w.heap.size Kn from fun W hb=>HKM.out.step hb)
      go_wp2_with (first
       | (at_lookup;refine Mp.wpList_lookup_is rfl (.tmp 17) (.tmp 19) _ _ rfl 3 26 hu3 Tryd.underlying77 _ (zero_cells _) w.heap.size Kn rfl (HKM.out.step (HBA _).out) x.f0 rfl HWF.out ?_;simp only [if_true];rw [HV.out];simp only [Option.getD_none,Option.isSome_none])
       | (go_at_call 61;refine (impl_in.calls _ _ _ _ _ HI.out).mono ?_;rintro e w' ⟨rfl,hd⟩;obtain ⟨⟨nd,rfl⟩⟩:=hd)
       | (go_at_call 42;refine (impl_TrmOk.calls A1 c1 x.f1 true _ (Kd.C_below HCC.out (BW.out.trans ((HBD _ _).out.mono BW.out.size))) HL1.out HT.out).mono ?_;rintro e w' ⟨rfl,hb⟩;have HB':=Aside0.mk ((HBD _ _).out.trans (hb.mono (HBD _ _).out.size));have q1:w'.cell? ⟨w.heap.size+1,0,none⟩=some (.map (some w.heap.size)):=(HB'.out.cell (p:=⟨w.heap.size+1,0,none⟩) hlk).trans hck;have q2:w'.cell? ⟨wr.heap.size,0,none⟩=some (.int .i64 x.f0):=(hb.cell (p:=⟨wr.heap.size,0,none⟩) (by simp)).trans (by simp [go_sem]);have q3:w'.cell? ⟨wr.heap.size,1,none⟩=some (.slice A1 x.f1.length c1):=(hb.cell (p:=⟨wr.heap.size,1,none⟩) (by simp)).trans (by simp [go_sem]);clear hb)
       | (at_mapUpdate;refine Mp.wpList_mapUpdate_is rfl (.tmp 36) (.tmp 38) _ _ rfl 3 26 hu3 Tryd.underlying77 w.heap.size Kn rfl (hAx.out _ HB'.out) x.f0 rfl r0 r1 (.slice A1 x.f1.length c1) rfl ?_;intro w3 hm3 hg3;have HM3:=Aside0.mk hm3;have HG3:=Aside0.mk hg3;clear hm3 hg3))
      go_roundg (l0.length - (j+1))
      case measure=>omega
      case rel=>
       have hb2:Below w.heap.size w w':=BW.out.trans (HB'.out.mono BW.out.size)
       refine ⟨j+1,Cat.upd kn x.f0 (some x.f1),by omega,by omega,by go_num,⟨hb2.grown HG3.out hb2.size (fun k_ e_=>by injection e_ with e_;omega)⟩,⟨?_⟩,⟨Cat.upd Kn x.f0 (some (.slice A1 x.f1.length c1)),HM3.out,fun z=>?_⟩,HG1⟩
       ·exact (World.cell?_of_block (HG3.out.block (w.heap.size+1) (World.block_lt_of_cell? w' _ q1) (fun e_=>by injection e_ with e_;omega))).trans q1
       ·by_cases hz:z=x.f0
        ·subst hz
         rw [Cat.upd_same,Cat.upd_same]
         exact .inr ⟨A1,x.f1,c1,rfl,rfl,HL1.out,HCC.out⟩
        ·rw [Cat.upd_ne _ _ hz,Cat.upd_ne _ _ hz]
         exact HKK.out z
  ·have hltz:¬ (j:Int)<(l0.length:Int):=by omega
   have hgo:=GW.out
   rw [List.drop_eq_nil_of_le (by omega),impl_SubOk.go] at hgo
   have hh:=HH.out
   rw [hgo] at hh
   simp only at hh
   obtain ⟨⟨b1,v1⟩,ha,hr1⟩:=Option.map_eq_some_iff.1 hh
   simp only at hr1
   subst hr1
   obtain ⟨Kn,hKm,hKk⟩:=KW.out
   have hck:=CW.out
   have hlk:w.heap.size+1<wr.heap.size:=World.block_lt_of_cell? wr _ hck
   have HKM:=Aside0.mk hKm
   have HKK:=Aside0.mk hKk
   have HA:=Aside0.mk ha
   clear hgo hh ha hKm hKk
   have hbv:∀ W,((wr.alloc (.map #[] 0)).alloc (.cells #[.map (some wr.heap.size)] 79)).grownBy W (some wr.heap.size)→Below wr.heap.size wr W:=fun W hg=>
    (((Below.refl _ wr).alloc (Nat.le_refl _) _).alloc (by simp) _).grown hg (by simp;omega) (fun k_ e_=>by injection e_ with e_;omega)
   have hbw:∀ W,((wr.alloc (.map #[] 0)).alloc (.cells #[.map (some wr.heap.size)] 79)).grownBy W (some wr.heap.size)→Below w.heap.size w W:=fun W hg=>BW.out.trans ((hbv W hg).mono BW.out.size)
   have hkk:∀ W,((wr.alloc (.map #[] 0)).alloc (.cells #[.map (some wr.heap.size)] 79)).grownBy W (some wr.heap.size)→Mp.MapIs Tryd.prog 3 W w.heap.size Kn∧Known W Kn (fun z=>(kn z).getD []):=fun W hg=>by
    refine ⟨HKM.out.step (hbv W hg),fun z=>?_⟩
    rcases HKK.out z with ⟨h1,h2⟩|⟨A,t,c,h1,h2,h3,h4⟩
    ·exact .inl ⟨h1,by simp only [h2];rfl⟩
    ·exact .inr ⟨A,c,by simp only [h1,Option.getD_some];exact h2,by simp only [h1,Option.getD_some];exact h3,by simp only [h1,Option.getD_some];exact Kd.C_below h4 (hbw W hg)⟩
   have hcc:∀ W,((wr.alloc (.map #[] 0)).alloc (.cells #[.map (some wr.heap.size)] 79)).grownBy W (some wr.heap.size)→W.cell? ⟨wr.heap.size+1,0,none⟩=some (.map (some wr.heap.size))∧W.cell? ⟨w.heap.size+1,0,none⟩=some (.map (some w.heap.size)):=fun W hg=>by
    refine ⟨(World.cell?_of_block (hg.block (wr.heap.size+1) (by simp) (fun e_=>by injection e_ with e_;omega))).trans (by simp [go_sem]),((hbv W hg).cell (p:=⟨w.heap.size+1,0,none⟩) hlk).trans hck⟩
   have HE:=Aside0.mk (containsFunc_binds 63 #[.pointer (some ⟨wr.heap.size+1,0,none⟩),.pointer (some ⟨w.heap.size+1,0,none⟩)] (some wr.heap.size) _ _ (enters_ Tryd.func63 (by kernel_rfl) rfl) A0 c0 l0 _
    (fun W hg=>Kd.C_below HR.out (hbw W hg)) (subok_pred k _ Kn _ wr.heap.size w.heap.size (wr.heap.size+1) (w.heap.size+1) hkk hcc) (fun _=>0) v1 b1 HA.out
    ((Mp.MapIs.made _ _ wr).step ((Below.refl _ _).alloc (Nat.le_refl _) _)))
   have HBW:=Aside0.mk hbw
   clear hbv hbw hkk hcc hck
   go_wp2_with (go_at_call 62;refine HE.out.mono ?_;rintro e w' ⟨rfl,_,hg⟩;have HG:=Aside0.mk hg;clear hg)
   go_ret
   exact ⟨by cases b1 <;> rfl,HBW.out _ HG.out⟩
/-! ### impl_bindings_get: function 103 -/
/-- the last binding of a variable -/
def getL:List Cat.Bind→Int→Option (List Cat.Cell)
 | [],_=>none
 | b :: s,v=>match getL s v with
  | some t=>some t
  | none=>if b.f0=v then some b.f1 else none
theorem getL_none:∀ (s:List Cat.Bind) (v:Int),(∀ b ∈ s,b.f0≠v)→getL s v=none
 | [],v,_=>rfl
 | b :: s,v,h=>by rw [getL,getL_none s v (fun x hx=>h x (by simp [hx]))];exact if_neg (h b (by simp))
theorem getL_at:∀ (s:List Cat.Bind) (v:Int) (j:Nat) (h:j<s.length),s[j].f0=v→(∀ i,(hi:i<s.length)→j<i→s[i].f0≠v)→getL s v=some s[j].f1
 | b :: s,v,0,h,e,hn=>by
  rw [getL,getL_none s v (fun x hx=>by
   obtain ⟨i,hi,rfl⟩:=List.getElem_of_mem hx
   exact hn (i+1) (by simp;omega) (Nat.succ_pos _))]
  exact if_pos e
 | b :: s,v,j+1,h,e,hn=>by
  rw [getL,getL_at s v j (by simpa using h) (by simpa using e) (fun i hi hij=>by have:=hn (i+1) (by simp;omega) (by omega);simpa using this)]
  rfl
/-- the last k numbers below n, the greatest first -/
def down (n k:Nat):List Nat:=(List.range k).map fun t=>n - 1 - t
theorem down_succ (n k:Nat):down n (k+1)=down n k++[n - 1 - k]:=by simp [down,List.range_succ]
theorem down_length (n k:Nat):(down n k).length=k:=by simp [down]
theorem mem_down {n k j:Nat} (hk:k≤n):j ∈ down n k↔n - k≤j∧j<n:=by
 simp only [down,List.mem_map,List.mem_range]
 constructor
 ·rintro ⟨t,h1,rfl⟩;omega
 ·rintro ⟨h1,h2⟩;exact ⟨n - 1 - j,by omega,by omega⟩
section
attribute [local go_sem] Oper.semAt_some
set_option maxRecDepth 100000 in
set_option maxHeartbeats 4000000 in
theorem backward1_in (F:Fence) (n:Nat) (h7:F.fn 117) (hro:F.round=none) (hn:1≤n) (l Bs n₀ len cap:Nat) (A0:Option Addr) (f0:Nat→Int) (AA:Nat→Option Addr) (ll cc:Nat→Nat) (hlen:len≤9223372036854775807) (J Jx:List Nat→World→Prop)
  (hY:∀ pre (x:Nat) W,J pre W→pre.length<len→YieldAt F (n - 1) Tryd.prog l #[.int .i64 (x:Int),.agg #[.int .i64 (f0 x),.slice (AA x) (ll x) (cc x)]] W fun e W'=>
   (e = .returned (.bool true)∧J (pre++[x]) W'∧Below n₀ W W')∨(e = .returned (.bool false)∧Jx (pre++[x]) W'))
  (W:World) (hBs:W.cell? ⟨Bs,0,none⟩=some (.slice A0 len cap)) (hBn:Bs<n₀)
  (hc:∀ j,j<len→∃ ad,A0=some ad∧ad.block<n₀∧W.cell? (ad.add (j * 2))=some (.int .i64 (f0 j))∧W.cell? ⟨(ad.add (j * 2)).block,(ad.add (j * 2)).off+1,none⟩=some (.slice (AA j) (ll j) (cc j))) (h0:J [] W) :
  CallsIn F n Tryd.prog 117 #[.func (.yield l) #[] #[],.pointer (some ⟨Bs,0,none⟩)] W fun e W'=>(∃ v,e = .returned v)∧
   ((∃ ys,ys=down len len∧J ys W')∨(∃ pre,(∃ k,k≤len∧pre=down len k)∧Jx pre W')):=by
 have HC:=Aside0.mk hc
 have HY:=Aside0.mk hY
 clear hc hY
 refine callsIn_of_wp Tryd.func117 rfl h7 ?_ hro
 simp only [Tryd.ntmps117,List.size_toArray,List.length_cons,List.length_nil,Nat.reduceAdd,Nat.reduceSub,Array.replicate_succ,Array.replicate_zero,List.push_toArray,List.append_toArray,List.nil_append,List.cons_append]
 gi_wp2
 gi_loopw [3] (fun i wr=>∃ m:Nat,m≤len∧i = .int .i64 ((m:Int) - 1)∧J (down len (len - m)) wr∧Below n₀ W wr)
  (fun i _=>(intOf i+1).toNat)
 case atStart=>exact ⟨len,Nat.le_refl _,rfl,by rw [Nat.sub_self];exact h0,Below.refl _ _⟩
 case round=>
  obtain ⟨m,hm,rfl,hJs,hnx⟩:=hrel
  cases m with
  | zero=>
   have e0:(((0:Nat):Int) - 1) = -1:=by omega
   rw [e0]
   gi_wp2
   go_end0
   exact ⟨⟨_,rfl⟩,.inl ⟨_,rfl,by simpa using hJs⟩⟩
  | succ j=>
   have e0:(((j+1:Nat):Int) - 1)=(j:Int):=by omega
   rw [e0]
   obtain ⟨ad,e1,hb,hx0,hx1⟩:=HC.out j (by omega)
   cases e1
   replace hx0:=(hnx.cell (p:=ad.add (j * 2)) (by rw [add_block];exact hb)).trans hx0
   replace hx1:=(hnx.cell (p:=⟨(ad.add (j * 2)).block,(ad.add (j * 2)).off+1,none⟩) (by show (ad.add (j * 2)).block<n₀;rw [add_block];exact hb)).trans hx1
   have hBs':=(hnx.cell (p:=⟨Bs,0,none⟩) hBn).trans hBs
   obtain ⟨fn,tmps,assign,body,hy,hR⟩:=HY.out _ j wr hJs (by rw [down_length];omega)
   have ed:down len (len - (j+1))++[j]=down len (len - j):=by rw [show len - j=(len - (j+1))+1 by omega,down_succ];congr 2;omega
   rw [ed] at hR
   gi_wp2
   refine hR.mono ?_
   rintro e W3 (⟨rfl,hJ3,hk3⟩|⟨rfl,hJx3⟩)
   ·gi_wp2
    go_roundw
    case rel=>exact ⟨j,by omega,rfl,hJ3,hnx.trans hk3⟩
    case measure=>simp [intOf]
   ·gi_wp2
    refine bodyPost_ret (results_none rfl _ _ _) rfl ?_
    exact ⟨⟨_,rfl⟩,.inr ⟨_,⟨len - j,by omega,rfl⟩,hJx3⟩⟩
set_option maxHeartbeats 1000000 in
theorem backward_in (F:Fence) (n:Nat) (h5:F.fn 109) (hro:F.round=none) (a:Option Addr) (len cap:Nat) (w:World) :
  CallsIn F n Tryd.prog 109 #[.slice a len cap] w fun e w'=>e = .returned (.func (.func 117) #[] #[.pointer (some ⟨w.heap.size,0,none⟩)])∧w'=w.alloc (.cells #[.slice a len cap] 85):=by
 refine callsIn_of_wp Tryd.func109 rfl h5 ?_ hro
 simp only [Tryd.ntmps109,List.size_toArray,List.length_cons,List.length_nil,Nat.reduceAdd,Nat.reduceSub,Array.replicate_succ,Array.replicate_zero,List.push_toArray,List.append_toArray,List.nil_append,List.cons_append]
 gi_wp2
 go_ret
 exact ⟨rfl,rfl⟩
theorem backward_stops (F:Fence) (n:Nat) (h7:F.fn 117) (hro:F.round=none) (hn:1≤n) (Bs n₀ len cap:Nat) (A0:Option Addr) (f0:Nat→Int) (AA:Nat→Option Addr) (ll cc:Nat→Nat) (hlen:len≤9223372036854775807) (w:World) (hBs:Bs<n₀) (hn₀:n₀≤w.heap.size)
  (hcs:w.cell? ⟨Bs,0,none⟩=some (.slice A0 len cap)) (hc:∀ j,j<len→∃ ad,A0=some ad∧ad.block<n₀∧w.cell? (ad.add (j * 2))=some (.int .i64 (f0 j))∧w.cell? ⟨(ad.add (j * 2)).block,(ad.add (j * 2)).off+1,none⟩=some (.slice (AA j) (ll j) (cc j))) :
  SeqStopsK F n Tryd.prog 117 #[.pointer (some ⟨Bs,0,none⟩)] (fun x:Nat=>#[.int .i64 (x:Int),.agg #[.int .i64 (f0 x),.slice (AA x) (ll x) (cc x)]]) (Below n₀) (fun ys=>ys=down len len) (fun pre=>∃ k,k≤len∧pre=down len k) len w:=fun l J Jx W hW _ _ hY h0=>by
 have hb:=hW.mono hn₀
 refine backward1_in F n h7 hro hn l Bs n₀ len cap A0 f0 AA ll cc hlen J Jx hY W ((hb.cell (p:=⟨Bs,0,none⟩) hBs).trans hcs) hBs (fun j hj=>?_) h0
 obtain ⟨ad,e1,hb1,hx0,hx1⟩:=hc j hj
 exact ⟨ad,e1,hb1,(hb.cell (p:=ad.add (j * 2)) (by rw [add_block];exact hb1)).trans hx0,(hb.cell (p:=⟨(ad.add (j * 2)).block,(ad.add (j * 2)).off+1,none⟩) (by show (ad.add (j * 2)).block<n₀;rw [add_block];exact hb1)).trans hx1⟩
set_option maxRecDepth 100000 in
set_option maxHeartbeats 4000000 in
theorem get_in (F:Fence) (n:Nat) (h3:F.fn 103) (h5:F.fn 109) (h7:F.fn 117) (hro:F.round=none) (hn:3≤n) (A0:Option Addr) (len cap:Nat) (f0:Nat→Int) (AA:Nat→Option Addr) (ll cc:Nat→Nat) (hlen:len≤9223372036854775807) (v:Int) (w:World)
  (hc:∀ j,j<len→∃ ad,A0=some ad∧ad.block<w.heap.size∧w.cell? (ad.add (j * 2))=some (.int .i64 (f0 j))∧w.cell? ⟨(ad.add (j * 2)).block,(ad.add (j * 2)).off+1,none⟩=some (.slice (AA j) (ll j) (cc j))) :
  CallsIn F n Tryd.prog 103 #[.slice A0 len cap,.int .i64 v] w fun e W'=>
   ((e = .returned (.slice none 0 0)∧∀ j,j<len→f0 j≠v)∨∃ j,j<len∧e = .returned (.slice (AA j) (ll j) (cc j))∧f0 j=v∧∀ i,j<i→i<len→f0 i≠v)∧Below w.heap.size w W':=by
 have h1:1≤n:=by omega
 refine callsIn_of_wp_marks Tryd.func103 rfl h3 ?_ hro
 simp only [Tryd.ntmps103,List.size_toArray,List.length_cons,List.length_nil,Nat.reduceAdd,Nat.reduceSub,Array.replicate_succ,Array.replicate_zero,List.push_toArray,List.append_toArray,List.nil_append,List.cons_append]
 have HC:=Aside0.mk hc
 clear hc
 gi_wp2_with (gi_at_call 109;refine (backward_in F (n - 1) h5 hro _ _ _ _).mono ?_;rintro e w' ⟨rfl,rfl⟩)
 have hB0:Below w.heap.size w (((w.alloc (.cells #[.int .i64 v] 3)).alloc (.cells #[.slice none 0 0] 26)).alloc (.cells #[.slice A0 len cap] 85)):=(((Below.refl _ w).alloc (Nat.le_refl _) _).alloc (by simp) _).alloc (by simp;omega) _
 have hsz:(((w.alloc (.cells #[.int .i64 v] 3)).alloc (.cells #[.slice none 0 0] 26)).alloc (.cells #[.slice A0 len cap] 85)).heap.size=w.heap.size+3:=by simp
 have c3:(((w.alloc (.cells #[.int .i64 v] 3)).alloc (.cells #[.slice none 0 0] 26)).alloc (.cells #[.slice A0 len cap] 85)).cell? ⟨w.heap.size,0,none⟩=some (.int .i64 v):=by simp [go_sem]
 have c4:(((w.alloc (.cells #[.int .i64 v] 3)).alloc (.cells #[.slice none 0 0] 26)).alloc (.cells #[.slice A0 len cap] 85)).cell? ⟨w.heap.size+1,0,none⟩=some (.slice none 0 0):=by simp [go_sem]
 have f4:(((w.alloc (.cells #[.int .i64 v] 3)).alloc (.cells #[.slice none 0 0] 26)).alloc (.cells #[.slice A0 len cap] 85)).frozen? ⟨w.heap.size+1,0,none⟩=false:=by simp [go_sem]
 have c5:(((w.alloc (.cells #[.int .i64 v] 3)).alloc (.cells #[.slice none 0 0] 26)).alloc (.cells #[.slice A0 len cap] 85)).cell? ⟨w.heap.size+1+1,0,none⟩=some (.slice A0 len cap):=by simp [go_sem]
 generalize (((w.alloc (.cells #[.int .i64 v] 3)).alloc (.cells #[.slice none 0 0] 26)).alloc (.cells #[.slice A0 len cap] 85))=W0 at hB0 hsz c3 c4 f4 c5 ⊢
 have hcw:∀ j,j<len→∃ ad,A0=some ad∧ad.block<w.heap.size+3∧W0.cell? (ad.add (j * 2))=some (.int .i64 (f0 j))∧W0.cell? ⟨(ad.add (j * 2)).block,(ad.add (j * 2)).off+1,none⟩=some (.slice (AA j) (ll j) (cc j)):=fun j hj=>by
  obtain ⟨ad,e1,hb1,hx0,hx1⟩:=HC.out j hj
  exact ⟨ad,e1,by omega,(hB0.cell (p:=ad.add (j * 2)) (by rw [add_block];exact hb1)).trans hx0,(hB0.cell (p:=⟨(ad.add (j * 2)).block,(ad.add (j * 2)).off+1,none⟩) (by show (ad.add (j * 2)).block<w.heap.size;rw [add_block];exact hb1)).trans hx1⟩
 refine wpIn_rangeFunc_ownH hro h1 (gf:=117) (lb:=#[.pointer (some ⟨w.heap.size+1+1,0,none⟩)]) rfl h7 (enters_of Tryd.func117 (by kernel_rfl) rfl)
  (backward_stops F (n - 1) h7 hro (by omega) (w.heap.size+1+1) (w.heap.size+3) len cap A0 f0 AA ll cc hlen W0 (by omega) (by omega) c5 hcw) belowK_t (belowK_b (by omega)) (Below.refl _ _) (fun _=>rfl)
  (fun pre W=>((∀ i ∈ pre,f0 i≠v)∧W.cell? ⟨w.heap.size,0,none⟩=some (.int .i64 v)∧W.cell? ⟨w.heap.size+1,0,none⟩=some (.slice none 0 0)∧W.frozen? ⟨w.heap.size+1,0,none⟩=false)∧(Below w.heap.size w W∧Below (w.heap.size+3) W0 W))
  (fun c pre W=>(c = .ret∧∃ ini j,pre=ini++[j]∧(∀ i ∈ ini,f0 i≠v)∧f0 j=v∧W.cell? ⟨w.heap.size+1,0,none⟩=some (.slice (AA j) (ll j) (cc j)))∧Below w.heap.size w W)
  (OwnFrom.and (Own.from (fun s A B row hs hg hr=>⟨hs.1,cell_kept hs.2.1 hg hr,cell_kept hs.2.2.1 hg hr,(frozen_kept hs.2.2.1 hg hr).trans hs.2.2.2⟩) _) (OwnFrom.and (ownFrom_below (Nat.le_refl _) (by omega)) (ownFrom_below (by omega) (by omega))))
  (fun c=>OwnFrom.and (Own.from (fun s A B row hs hg hr=>by obtain ⟨hc,ini,last,e1,e2,e3,e4⟩:=hs;exact ⟨hc,ini,last,e1,e2,e3,cell_kept e4 hg hr⟩) _) (ownFrom_below (Nat.le_refl _) (by omega)))
  ⟨⟨by simp,c3,c4,f4⟩,hB0,Below.refl _ _⟩
  (fun x a' W=>∃ Bx,w.heap.size+1+1<Bx∧(W.cell? ⟨Bx,0,none⟩=some (.int .i64 (f0 x))∧W.cell? ⟨Bx,1,none⟩=some (.slice (AA x) (ll x) (cc x)))∧a' = { tmps:=#[.slice A0 len cap,.int .i64 v,undef,.pointer (some ⟨w.heap.size,0,none⟩),.pointer (some ⟨w.heap.size+1,0,none⟩),undef,.pointer (some ⟨Bx,0,none⟩),.slice A0 len cap,
   .func (.func 117) #[] #[.pointer (some ⟨w.heap.size+1+1,0,none⟩)],.int .i64 (x:Int),.agg #[.int .i64 (f0 x),.slice (AA x) (ll x) (cc x)],undef,undef,undef,undef,undef,undef],defers:=[] })
  (fun x a' _ X Y row hs hg hr=>by obtain ⟨Bx,h1,⟨h2,h3⟩,h4⟩:=hs;exact ⟨Bx,h1,⟨cell_kept h2 hg (fun r e=>(hr r e).2),cell_kept h3 hg (fun r e=>(hr r e).2)⟩,h4⟩)
  ?assign ?body ?done ?stop
 case assign=>
  rintro l pre x W K ⟨⟨hp,hc3,hc4,hf4⟩,hB1,hBn⟩ hK
  have hK0:=Aside0.mk hK
  have HP:=Aside0.mk hp
  clear hK hp
  gi_wp2
  have hWs:w.heap.size+3≤W.heap.size:=by have:=hBn.size;omega
  have hBa:=(Below.refl (w.heap.size+3) W).alloc hWs (.cells #[.int .i64 (f0 x),.slice (AA x) (ll x) (cc x)] 30)
  refine hK0.out _ _ ((KeepsOthers.alloc _ _).from _) hBa ⟨⟨HP.out,(hBa.cell (p:=⟨w.heap.size,0,none⟩) (by simp)).trans hc3,(hBa.cell (p:=⟨w.heap.size+1,0,none⟩) (by simp)).trans hc4,(hBa.frozen (p:=⟨w.heap.size+1,0,none⟩) (by simp)).trans hf4⟩,hB1.alloc hB1.size _,hBn.trans hBa⟩ ⟨W.heap.size,by omega,⟨?_,?_⟩,rfl⟩
  ·simp [go_sem]
  ·simp [go_sem]
 case body=>
  rintro l pre x a' W hl ⟨r,hr⟩ ⟨⟨hp,hc3,hc4,hf4⟩,hB1,hBn⟩ ⟨Bx,hBx,⟨hx0,hx1⟩,rfl⟩ hlt
  have HP:=Aside0.mk hp
  clear hp
  by_cases hv:f0 x=v
  ·have hvt:(f0 x == v)=true:=by simpa using hv
   have HV:=Aside0.mk hv
   clear hv
   gi_wp2
   exact ⟨(KeepsOthers.setCell _ _ _).from _,⟨rfl,pre,x,rfl,HP.out,HV.out,World.cell?_setCell_same' _ _ _ (by rw [hc4];rfl)⟩,hB1.setCell (p:=⟨w.heap.size+1,0,none⟩) (by simp) _⟩
  ·have hvt:(f0 x == v)=false:=by simpa using hv
   have HV:=Aside0.mk hv
   clear hv
   gi_wp2
   exact ⟨KeepsFrom.refl _ _,Below.refl _ _,⟨fun p hp'=>(List.mem_append.1 hp').elim (HP.out p) (fun e=>by rw [List.mem_singleton.1 e];exact HV.out),hc3,hc4,hf4⟩,hB1,hBn⟩
 case done=>
  rintro D ys W hD rfl ⟨⟨hne,hc3,hcr,hfr⟩,hB,_⟩ hK
  have HN:=Aside0.mk hne
  clear hne
  gi_wp2
  have hK':=(KeepsOthers.setCell W ⟨w.heap.size+1,0,none⟩ (.slice none 0 0)).same D _ hK rfl
  refine ⟨by simp,.inl ⟨_,_,rfl,run_takeDeferred hK',?_⟩⟩
  have hc5:=cell_kept (World.cell?_setCell_same' W ⟨w.heap.size+1,0,none⟩ (.slice none 0 0) (by rw [hcr];rfl)) (grownBy_putObj' _ D (.deferred none)) (fun r e=>by cases e;exact ⟨_,hK',rfl⟩)
  refine ⟨.slice none 0 0,?_,.inl ⟨rfl,fun j hj=>HN.out j ((mem_down (Nat.le_refl _)).2 ⟨by omega,hj⟩)⟩,(hB.setCell (p:=⟨w.heap.size+1,0,none⟩) (by simp) _).trans (belowK_b (w:=w) (Nat.le_refl _) _ D _ _ (by omega) hK' rfl rfl)⟩
  simp [results,Tryd.f103,go_sem,hc5]
 case stop=>
  rintro D c pre W hD ⟨k,hk,rfl⟩ ⟨⟨rfl,ini,last,e1,e2,e3,hcr⟩,hB⟩ hK
  gi_wp2
  refine ⟨by simp,.inl ⟨_,_,rfl,run_takeDeferred hK,?_⟩⟩
  have hc5:=cell_kept hcr (grownBy_putObj' _ D (.deferred none)) (fun r e=>by cases e;exact ⟨_,hK,rfl⟩)
  obtain ⟨k',rfl⟩:∃ k',k=k'+1:=by
   cases k with
   | zero=>simp [down] at e1
   | succ k'=>exact ⟨k',rfl⟩
  rw [down_succ] at e1
  obtain ⟨rfl,e5⟩:=List.append_inj' e1 rfl
  obtain rfl:len - 1 - k'=last:=by simpa using e5
  refine ⟨.slice (AA (len - 1 - k')) (ll (len - 1 - k')) (cc (len - 1 - k')),?_,.inr ⟨len - 1 - k',by omega,rfl,e3,fun i hi1 hi2=>e2 i ((mem_down (by omega)).2 ⟨by omega,hi2⟩)⟩,hB.trans (belowK_b (w:=w) (Nat.le_refl _) W D _ _ (by omega) hK rfl rfl)⟩
  simp [results,Tryd.f103,go_sem,hc5]
end
/-- what a variable is bound to at last: the slice itself; nil, if it is not bound -/
theorem get_calls0 (A0:Option Addr) (c0:Nat) (l0:List (S30)) (v:Int) (w0 w:World) (hr0:Kd.C k30 w0 A0 l0.length l0) (hb0:Below w0.heap.size w0 w) :
  Calls Tryd.prog 103 #[.slice A0 l0.length c0,.int .i64 v] w fun e w'=>
   ((getL l0 v=none∧e = .returned (.slice none 0 0))∨∃ t A c,getL l0 v=some t∧e = .returned (.slice A t.length c)∧t.length≤c∧Kd.C k46 w0 A t.length t)∧Below w.heap.size w w':=by
 have hat:∀ j:Nat,∃ q:Option Addr × Nat,j<l0.length→∃ ad,A0=some ad∧ad.block<w0.heap.size∧w0.cell? (ad.add (j * 2))=some (.int .i64 (rd_T30 l0 j).f0)∧
   w0.cell? ⟨(ad.add (j * 2)).block,(ad.add (j * 2)).off+1,none⟩=some (.slice q.1 (rd_T30 l0 j).f1.length q.2)∧(rd_T30 l0 j).f1.length≤q.2∧Kd.C k46 w0 q.1 (rd_T30 l0 j).f1.length (rd_T30 l0 j).f1:=fun j=>by
  by_cases hj:j<l0.length
  ·obtain ⟨ad,A1,c1,e1,h0,h1,h2,h3⟩:=at_T30 hr0 (j:Int) (by omega) (by omega)
   rw [Int.toNat_natCast] at h0 h1
   refine ⟨(A1,c1),fun _=>⟨ad,e1,?_,h0,h1,h2,h3⟩⟩
   have:=World.block_lt_of_cell? w0 _ h0
   rwa [add_block] at this
  ·exact ⟨(none,0),fun h=>absurd h hj⟩
 obtain ⟨q,hq⟩:=Classical.skolem.1 hat
 refine callsIn_wide.1 ((get_in Fence.wide 10 trivial trivial trivial rfl (by omega) A0 l0.length c0 (fun j=>(rd_T30 l0 j).f0) (fun j=>(q j).1) (fun j=>(rd_T30 l0 j).f1.length) (fun j=>(q j).2) hr0.2.1 v w (fun j hj=>?_)).mono ?_)
 ·obtain ⟨ad,e1,h0,h1,h2,_⟩:=hq j hj
  exact ⟨ad,e1,Nat.lt_of_lt_of_le h0 hb0.size,(hb0.cell (p:=ad.add (j * 2)) (by rw [add_block];exact h0)).trans h1,(hb0.cell (p:=⟨(ad.add (j * 2)).block,(ad.add (j * 2)).off+1,none⟩) (by show (ad.add (j * 2)).block<w0.heap.size;rw [add_block];exact h0)).trans h2⟩
 ·have er:∀ j,(h:j<l0.length)→rd_T30 l0 (j:Int)=l0[j]:=fun j h=>by simp [rd_T30,List.getD,h]
  rintro e W' ⟨⟨rfl,hne⟩|⟨j,hj,rfl,hv,hn⟩,hB⟩
  ·refine ⟨.inl ⟨getL_none _ _ (fun b hb=>?_),rfl⟩,hB⟩
   obtain ⟨j,hj,rfl⟩:=List.getElem_of_mem hb
   have:=hne j hj
   rwa [er j hj] at this
  ·obtain ⟨ad,_,_,_,_,h2,h3⟩:=hq j hj
   have e1:=er j hj
   simp only [e1] at h2 h3 hv ⊢
   exact ⟨.inr ⟨l0[j].f1,(q j).1,(q j).2,getL_at l0 v j hj hv (fun i hi hij=>by rw [← er i hi];exact hn i hij hi),rfl,h2,h3⟩,hB⟩
/-! ### impl_bindings_fill: function 96 -/
/-- a term with what is bound, behind others, as the program puts it -/
def fillL (f:List Cat.Cell→List Cat.Cell→Option (List Cat.Cell)) (g:Int→Option (List Cat.Cell)):List Cat.Cell→List Cat.Cell→Option (List Cat.Cell)
 | out,[]=>some out
 | out,c :: l=>if 40<out.length then some out else if c.f0=1 then match g c.f1 with
   | none=>fillL f g (out++[c]) l
   | some t=>if t=[] then none else (f out t).bind fun o=>fillL f g o l
  else fillL f g (out++[c]) l
def fillF (s:List Cat.Bind):Nat→List Cat.Cell→List Cat.Cell→Option (List Cat.Cell)
 | 0,_,_=>none
 | k+1,out,t=>fillL (fillF s k) (getL s) out t
theorem cells_pos {w:World} {A:Option Addr} {t:List Cat.Cell} (h:Kd.C k46 w A t.length t) (hp:t≠[]):∃ ad,A=some ad:=by
 obtain ⟨ad,e,_⟩:=h.2.2 (List.length_pos_iff.2 hp)
 exact ⟨ad,e⟩
set_option maxHeartbeats 8000000 in
set_option maxRecDepth 100000 in
theorem fill_any (w0:World) (A0:Option Addr) (c0:Nat) (s:List Cat.Bind) (hs:Kd.C k30 w0 A0 s.length s):∀ (k:Nat) (out t r:List Cat.Cell) (v:Value) (A:Option Addr) (c:Nat) (W:World),fillF s k out t=some r→
  Kd.R k46 46 W w0.heap.size (fun _=>True) v out→Below w0.heap.size w0 W→Kd.C k46 w0 A t.length t→t.length≤c→
  Calls Tryd.prog 96 #[.slice A0 s.length c0,v,.slice A t.length c] W fun e w'=>∃ v',e = .returned v'∧Kd.R k46 46 w' w0.heap.size (fun _=>True) v' r∧Below w0.heap.size w0 w':=by
 intro k
 induction k with
 | zero=>intro out t r v A c W h;cases h
 | succ k ih=>
  intro out t r v A c W h hR hB hC hl
  rw [fillF] at h
  have HH:=Aside0.mk h
  have HR:=Aside0.mk hR
  have HB:=Aside0.mk hB
  have HC:=Aside0.mk hC
  have HI:=Aside0.mk ih
  have hm:t.length≤9223372036854775807:=hC.2.1
  have hnn:=fun (w:World) (a:Option Addr) (n c:Nat)=>run_neq_slice_nil_any (P:=Tryd.prog) w 26 46 a n c 0 0 Tryd.underlying26
  clear h hR hB hC ih
  obtain ⟨Av,cv,hv⟩:=Kd.R_slice HR.out
  subst hv
  go_enter Tryd.func96,Tryd.ntmps96
  go_wp2
  go_loopg [1,8,9,12] t.length (fun gg u1 _ _ s12 wr=>∃ (j:Nat) (o:List Cat.Cell),j≤t.length∧t.length - j≤gg∧s12 = .int .i64 j∧Aside0 (Kd.R k46 46 wr w0.heap.size (fun _=>True) u1 o)∧Aside0 (Below w0.heap.size w0 wr)∧
   Aside0 (fillL (fillF s k) (getL s) o (t.drop j)=some r))
  case atStart=>exact ⟨0,out,Nat.zero_le _,by omega,rfl,HR,HB,⟨by rw [List.drop_zero];exact HH.out⟩⟩
  case round=>
   obtain ⟨j,o,hj,hgg,rfl,HRo,HBr,HF⟩:=hrel
   obtain ⟨Ao,co,hv⟩:=Kd.R_slice HRo.out
   subst hv
   have hom:o.length≤9223372036854775807:=(Kd.R_reads' HRo.out).2.2.2.1
   by_cases hlt:j<t.length
   ·have hltz:(j:Int)<(t.length:Int):=by omega
    have hl:=HF.out
    rw [List.drop_eq_getElem_cons hlt,fillL] at hl
    obtain ⟨ad,e1,hx0,hx1,hx2⟩:=at_T46 HC.out (j:Int) (by omega) hltz
    cases e1
    rw [Int.toNat_natCast] at hx0 hx1 hx2
    have ey:rd_T46 t (j:Int)=t[j]:=by simp [rd_T46,List.getD,hlt]
    rw [ey] at hx0 hx1 hx2
    generalize t[j]=y at hx0 hx1 hx2 hl
    replace hx0:=(HBr.out.cell (World.block_lt_of_cell? w0 _ hx0)).trans hx0
    replace hx1:=(HBr.out.cell (World.block_lt_of_cell? w0 _ hx1)).trans hx1
    replace hx2:=(HBr.out.cell (World.block_lt_of_cell? w0 _ hx2)).trans hx2
    have had:=World.block_lt_of_cell? wr _ hx0
    rw [add_block] at had
    have HL:=Aside0.mk hl
    clear hl ey
    have HBA:∀ ob,Aside0 (Below wr.heap.size wr (wr.alloc ob)):=fun ob=>⟨(Below.refl _ _).alloc (Nat.le_refl _) ob⟩
    by_cases h40:40<o.length
    ·have h40z:(40:Int)<(o.length:Int):=by omega
     go_wp2
     go_ret
     have h1:=HL.out
     rw [if_pos h40] at h1
     obtain rfl:=Option.some.inj h1
     exact ⟨_,rfl,Kd.R_below HRo.out (HBA _).out,HBr.out.trans ((HBA _).out.mono HBr.out.size)⟩
    ·have h40z:¬ (40:Int)<(o.length:Int):=by omega
     have HL2:=Aside0.mk (HL.out.symm.trans (if_neg h40)).symm
     have HRb:∀ W',Below wr.heap.size wr W'→Aside0 (Kd.R k46 46 W' w0.heap.size (fun _=>True) (.slice Ao o.length co) o):=fun W' hb=>⟨Kd.R_below HRo.out hb⟩
     have HBW:=Aside0.mk (show ∀ W',Below wr.heap.size wr W'→Below w0.heap.size w0 W' from fun W' hb=>HBr.out.trans (hb.mono HBr.out.size))
     by_cases hv:y.f0=1
     ·have HV:=Aside0.mk hv
      have hvt:(y.f0 == 1)=true:=by simpa using hv
      have HL3:=Aside0.mk (HL2.out.symm.trans (if_pos hv)).symm
      clear hv
      cases hg:getL s y.f1 with
      | none=>
       have hl4:=HL3.out
       rw [hg] at hl4
       have HL4:=Aside0.mk hl4
       have HG:=Aside0.mk hg
       clear hl4 hg
       go_wp2_with (first
        | (go_at_call 103;refine (get_calls0 A0 c0 s y.f1 w0 _ hs (HBW.out _ (HBA _).out)).mono ?_;rintro e w' ⟨hq,hb⟩;obtain rfl:e = .returned (.slice none 0 0):=(by rcases hq with ⟨_,e1⟩|⟨t1,A1,c1,e1,_⟩;exact e1;rw [HG.out] at e1;cases e1);have HBG:=Aside0.mk ((HBA _).out.trans (hb.mono (HBA _).out.size));have hc5:w'.cell? ⟨wr.heap.size,0,none⟩=some (.int .i64 y.f0):=(hb.cell (p:=⟨wr.heap.size,0,none⟩) (by simp)).trans (by simp [go_sem]);have hc6:w'.cell? ⟨wr.heap.size,1,none⟩=some (.int .i64 y.f1):=(hb.cell (p:=⟨wr.heap.size,1,none⟩) (by simp)).trans (by simp [go_sem]);have hc7:w'.cell? ⟨wr.heap.size,2,none⟩=some (.string y.f2):=(hb.cell (p:=⟨wr.heap.size,2,none⟩) (by simp)).trans (by simp [go_sem]);have hgs:=hb.size;clear hb hq)
        | ((with_reducible refine gate_builtin (b:=.append) (xs:=#[.tmp 33,.tmp 35]) rfl ?_);at_builtin;refine Kd.R_append k46 (w0:=w0) w0.heap.size rfl (.tmp 33) (.tmp 35) 26 46 (.agg #[(.int .i64 0),(.int .i64 0),(.string ⟨#[]⟩)]) 32 rfl Tryd.underlying26 info46 rfl (by decide) (by omega) (.slice Ao o.length co) o y [.int .i64 y.f0,.int .i64 y.f1,.string y.f2] (fun _=>True) (fun _=>False) rfl qz71 ?aP (fun _ hk=>hk.elim) ?aF ?aO ?aB ?aS ?aL ?_;(case aP=>exact k46_mkM _ _ _ y);(case aF=>exact fun _ _=>trivial);(case aO=>exact (HRb _ HBG.out).out);(case aB=>exact HBW.out _ HBG.out);(case aS=>exact Nat.le_trans HBr.out.size HBG.out.size);(case aL=>omega);intro v9 w9 ho9 hb9 hg9 hat9;clear hg9 hat9))
       go_roundg (t.length - (j+1))
       case measure=>omega
       case rel=>
        exact ⟨j+1,_,by omega,by omega,by go_num,⟨ho9⟩,⟨hb9⟩,HL4⟩
      | some t1=>
       have hl4:=HL3.out
       rw [hg] at hl4
       replace hl4:(if t1=[] then none else (fillF s k o t1).bind fun o=>fillL (fillF s k) (getL s) o (t.drop (j+1)))=some r:=hl4
       have HG:=Aside0.mk hg
       have ht1:t1≠[]:=by
        intro e1
        rw [e1] at hl4
        simp at hl4
       have hl5:=hl4
       rw [if_neg ht1] at hl5
       obtain ⟨o1,ho1,ho2⟩:=Option.bind_eq_some_iff.1 hl5
       have HO1:=Aside0.mk ho1
       have HL4:=Aside0.mk ho2
       clear ho1 ho2 hl4 hl5 hg
       go_wp2_with (first
        | (go_at_call 103;refine (get_calls0 A0 c0 s y.f1 w0 _ hs (HBW.out _ (HBA _).out)).mono ?_;rintro e w' ⟨hq,hb⟩;obtain ⟨A1,c1,rfl,hc1,hC1⟩:∃ A1 c1,e = .returned (.slice A1 t1.length c1)∧t1.length≤c1∧Kd.C k46 w0 A1 t1.length t1:=(by rcases hq with ⟨hn,_⟩|⟨t2,A1,c1,h2,e1,h3,h4⟩;(rw [HG.out] at hn;cases hn);(rw [HG.out] at h2;injection h2 with h2;subst h2;exact ⟨A1,c1,e1,by assumption,by assumption⟩));obtain ⟨ad1,rfl⟩:=cells_pos hC1 ht1;have HC1:=Aside0.mk hC1;have HBG:=Aside0.mk ((HBA _).out.trans (hb.mono (HBA _).out.size));clear hq hb hC1)
        | (go_at_call 96;refine (HI.out o t1 o1 (.slice Ao o.length co) (some ad1) c1 _ HO1.out (HRb _ HBG.out).out (HBW.out _ HBG.out) HC1.out hc1).mono ?_;rintro e w9 ⟨v9,rfl,ho9,hb9⟩))
       go_roundg (t.length - (j+1))
       case measure=>omega
       case rel=>
        exact ⟨j+1,_,by omega,by omega,by go_num,⟨ho9⟩,⟨hb9⟩,HL4⟩
     ·have hvf:(y.f0 == 1)=false:=by simpa using hv
      have HL4:=Aside0.mk (HL2.out.symm.trans (if_neg hv)).symm
      clear hv
      have HBG:Aside0 (Below wr.heap.size wr (wr.alloc (.cells #[.int .i64 y.f0,.int .i64 y.f1,.string y.f2] 46))):=HBA _
      go_wp2_with (first
       | ((with_reducible refine gate_builtin (b:=.append) (xs:=#[.tmp 33,.tmp 35]) rfl ?_);at_builtin;refine Kd.R_append k46 (w0:=w0) w0.heap.size rfl (.tmp 33) (.tmp 35) 26 46 (.agg #[(.int .i64 0),(.int .i64 0),(.string ⟨#[]⟩)]) 32 rfl Tryd.underlying26 info46 rfl (by decide) (by omega) (.slice Ao o.length co) o y [.int .i64 y.f0,.int .i64 y.f1,.string y.f2] (fun _=>True) (fun _=>False) rfl qz71 ?aP (fun _ hk=>hk.elim) ?aF ?aO ?aB ?aS ?aL ?_;(case aP=>exact k46_mkM _ _ _ y);(case aF=>exact fun _ _=>trivial);(case aO=>exact (HRb _ HBG.out).out);(case aB=>exact HBW.out _ HBG.out);(case aS=>exact Nat.le_trans HBr.out.size HBG.out.size);(case aL=>omega);intro v9 w9 ho9 hb9 hg9 hat9;clear hg9 hat9))
      go_roundg (t.length - (j+1))
      case measure=>omega
      case rel=>
       exact ⟨j+1,_,by omega,by omega,by go_num,⟨ho9⟩,⟨hb9⟩,HL4⟩
   ·have hltz:¬ (j:Int)<(t.length:Int):=by omega
    have hl:=HF.out
    rw [List.drop_eq_nil_of_le (by omega),fillL] at hl
    obtain rfl:=Option.some.inj hl
    clear hl
    go_wp2
    go_ret
    exact ⟨_,rfl,HRo.out,HBr.out⟩

end Go.Proofs.YtlaicnoikeieeaaDoor.P
