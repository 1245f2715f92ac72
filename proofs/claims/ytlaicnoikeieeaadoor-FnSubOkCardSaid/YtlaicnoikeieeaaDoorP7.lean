/- Contracts of functions of the program: each as a Lean function, and that its call does what that says; printed by cprint.py (this session) over print.py of the kit. Conditions: the hypotheses of each theorem. -/
import Derived.Test.YtlaicnoikeieeaaDoorP0
import Derived.Test.YtlaicnoikeieeaaDoorP1
import Derived.Test.YtlaicnoikeieeaaDoorP6
namespace Go.Proofs.YtlaicnoikeieeaaDoor.P
open Go.RowKit Go.Proofs.YtlaicnoikeieeaaDoorW.PrintWords Go.Proofs.YtlaicnoikeieeaaDoorW.PrintLast Go.Proofs.YtlaicnoikeieeaaDoorW.PrintMore
attribute [local go_sem] max2_int min2_int max_two min_two max_three min_three max_four min_four   -- for this text's walks alone
set_option linter.unusedVariables false
set_option linter.unusedSimpArgs false

/-! ### impl_SubOk: function 26 -/
/-- whether a variable leads to itself, as the program goes through -/
def impl_SubOk.lF (K:Nat) (kn:Int→List Cat.Cell):Nat→(Int→Int)→Int→Option (Bool × (Int→Int))
 | 0,_,_=>none
 | k+1,v,a=>if 0≤a∧a≤99999 then (if v a=1 then some (true,v) else if v a=2 then some (false,v) else
   (impl_TrmFree.f K (kn a)).bind fun fr=>(Cat.loopsL (impl_SubOk.lF K kn k) (Cat.upd v a 1) fr).bind fun r=>if r.1=true then some r else some (false,Cat.upd r.2 a 2)) else none
/-- how far a variable was gone through, as a map -/
def visF (v:Int→Int):Int→Option Value:=fun z=>if v z=0 then none else some (.int .i64 (v z))
theorem visF_upd (v:Int→Int) (a x:Int) (hx:x≠0):Cat.upd (visF v) a (some (.int .i64 x))=visF (Cat.upd v a x):=by
 funext z
 unfold visF Cat.upd
 by_cases e:z=a
 ·simp [e,hx]
 ·simp [e]
theorem visF_get (v:Int→Int) (z:Int):(visF v z).getD (.int .i64 0) = .int .i64 (v z):=by
 unfold visF
 by_cases e:v z=0
 ·rw [if_pos e,e];rfl
 ·rw [if_neg e];rfl
theorem zero_int (w:World):(zeroValue 3).run Tryd.prog w = .ok (.int .i64 0) w:=by kernel_rfl
theorem zero_cells (w:World):(zeroValue 26).run Tryd.prog w = .ok (.slice none 0 0) w:=by kernel_rfl
/-- what is known of a variable, in memory -/
def Known (w:World) (Kn:Int→Option Value) (kn:Int→List Cat.Cell):Prop:=
 ∀ z,(Kn z=none∧kn z=[])∨∃ A c,Kn z=some (.slice A (kn z).length c)∧(kn z).length≤c∧Kd.C k46 w A (kn z).length (kn z)
theorem known_get {w:World} {Kn:Int→Option Value} {kn:Int→List Cat.Cell} (h:Known w Kn kn) (z:Int):∃ A c,(Kn z).getD (.slice none 0 0) = .slice A (kn z).length c∧(kn z).length≤c∧Kd.C k46 w A (kn z).length (kn z):=by
 rcases h z with ⟨h1,h2⟩|⟨A,c,h1,h2,h3⟩
 ·exact ⟨none,0,by rw [h1,h2];rfl,by rw [h2];exact Nat.le_refl _,by rw [h2];exact Kd.C_nil _ _⟩
 ·exact ⟨A,c,by rw [h1];rfl,h2,h3⟩
theorem int_at {w:World} {A:Option Addr} {n:Nat} {xs:List Int} (h:Kd.C (Kd.int .i64) w A n xs) (i:Nat) (h1:i<n):∃ ad,A=some ad∧w.cell? (ad.add i)=some (.int .i64 (xs.getD i 0)):=by
 obtain ⟨ad,c,e,_,hK,hc0⟩:=Kd.C_get h 0 (i:Int) (by omega) (by omega)
 have hc:∀ j u,c[j]?=some u→w.cell? (ad.add (i * 1+j))=some u:=hc0
 have e2:c=[.int .i64 (xs.getD i 0)]:=hK
 subst e2
 exact ⟨ad,e,by have:=hc 0 _ rfl;rwa [Nat.mul_one,Nat.add_zero] at this⟩
set_option maxHeartbeats 8000000 in
set_option maxRecDepth 100000 in
theorem visit_loops (K:Nat) (kn:Int→List Cat.Cell) (Kn:Int→Option Value) (w0:World) (bv bk:Nat)
  (hk:∀ W,w0.grownBy W (some bv)→Mp.MapIs Tryd.prog 3 W bk Kn∧Known W Kn kn) :
  ∀ (k:Nat) (v:Int→Int) (a:Int) (b:Bool) (v':Int→Int) (W:World),impl_SubOk.lF K kn k v a=some (b,v')→Mp.MapIs Tryd.prog 3 W bv (visF v)→w0.grownBy W (some bv)→
   Calls Tryd.prog 64 #[.map (some bv),.map (some bk),.int .i64 a] W fun e w'=>e = .returned (.bool b)∧Mp.MapIs Tryd.prog 3 w' bv (visF v')∧W.grownBy w' (some bv):=by
 intro k
 induction k with
 | zero=>intro v a b v' W h;cases h
 | succ k ih=>
  intro v a b v' W h hm hg
  rw [impl_SubOk.lF] at h
  by_cases hr:0≤a∧a≤99999
  case neg=>rw [if_neg hr] at h;cases h
  rw [if_pos hr] at h
  obtain ⟨a0,a1⟩:=hr
  have hwf:(Lit.int .i64 a).wf=true:=WalkArith.wf_i64 (by omega)
  have HM:=Aside0.mk hm
  have HG:=Aside0.mk hg
  have HW:=Aside0.mk hwf
  have HK:=Aside0.mk hk
  have HI:=Aside0.mk ih
  clear hm hg hwf hk ih
  have hu3:=Tryd.underlying3
  by_cases h1:v a=1
  ·rw [if_pos h1] at h
   simp only [Option.some.injEq,Prod.mk.injEq] at h
   obtain ⟨rfl,rfl⟩:=h
   have H1:=Aside0.mk h1
   clear h1
   go_enter Tryd.func64,Tryd.ntmps64
   go_wp2_with (at_lookup;refine Mp.wpList_lookup_is rfl _ _ _ _ rfl 3 3 hu3 Tryd.underlying79 _ (zero_int _) bv (visF v) rfl HM.out a rfl HW.out ?_;simp only [Bool.false_eq_true,if_false];rw [visF_get,H1.out])
   go_ret
   exact ⟨rfl,HM.out,⟨rfl,rfl,rfl,Nat.le_refl _,fun _ _ _=>rfl⟩⟩
  ·rw [if_neg h1] at h
   by_cases h2:v a=2
   ·rw [if_pos h2] at h
    simp only [Option.some.injEq,Prod.mk.injEq] at h
    obtain ⟨rfl,rfl⟩:=h
    have H2:=Aside0.mk h2
    clear h1 h2
    go_enter Tryd.func64,Tryd.ntmps64
    go_wp2_with (at_lookup;refine Mp.wpList_lookup_is rfl _ _ _ _ rfl 3 3 hu3 Tryd.underlying79 _ (zero_int _) bv (visF v) rfl HM.out a rfl HW.out ?_;simp only [Bool.false_eq_true,if_false];rw [visF_get,H2.out])
    go_ret
    exact ⟨rfl,HM.out,grown_nothing _ _⟩
   ·rw [if_neg h2] at h
    cases e1:impl_TrmFree.f K (kn a) with
    | none=>rw [e1] at h;cases h
    | some fr=>
    rw [e1] at h
    simp only [Option.bind_some] at h
    cases e2:Cat.loopsL (impl_SubOk.lF K kn k) (Cat.upd v a 1) fr with
    | none=>rw [e2] at h;cases h
    | some q=>
    obtain ⟨b1,v1⟩:=q
    rw [e2] at h
    simp only [Option.bind_some] at h
    have E1:=Aside0.mk e1
    have E2:=Aside0.mk e2
    have E3:=Aside0.mk h
    have t1:(v a == 1)=false:=beq_eq_false_iff_ne.2 h1
    have t2:(v a == 2)=false:=beq_eq_false_iff_ne.2 h2
    clear h h1 h2 e1 e2
    generalize hva:v a=va at t1 t2
    have HV:=Aside0.mk hva
    clear hva
    go_enter Tryd.func64,Tryd.ntmps64
    go_wp2_with (first
     | (at_lookup;refine Mp.wpList_lookup_is rfl (.tmp 9) (.tmp 10) _ _ rfl 3 3 hu3 Tryd.underlying79 _ (zero_int _) bv (visF v) rfl HM.out a rfl HW.out ?_;simp only [Bool.false_eq_true,if_false];rw [visF_get,HV.out])
     | (at_mapUpdate;refine Mp.wpList_mapUpdate_is rfl (.tmp 16) (.tmp 17) _ _ rfl 3 3 hu3 Tryd.underlying79 bv (visF v) rfl HM.out a rfl a0 a1 (.int .i64 1) rfl ?_;intro w1 hm1 hg1;rw [visF_upd v a 1 (by decide)] at hm1;have HM1:=Aside0.mk hm1;have HG1:=Aside0.mk hg1;obtain ⟨hk1,hk2⟩:=HK.out w1 (grown_both HG.out hg1);have HK1:=Aside0.mk hk1;obtain ⟨A,c,ev,hl,hC⟩:=known_get hk2 a;have HEV:=Aside0.mk ev;have HL:=Aside0.mk hl;have HC:=Aside0.mk hC;clear hm1 hg1 hk1 hk2 ev hl hC)
     | (at_lookup;refine Mp.wpList_lookup_is rfl (.tmp 18) (.tmp 19) _ _ rfl 3 26 hu3 Tryd.underlying77 _ (zero_cells _) bk Kn rfl HK1.out a rfl HW.out ?_;simp only [Bool.false_eq_true,if_false];rw [HEV.out])
     | (go_at_call 32;refine (impl_TrmFree.calls K A c (kn a) fr _ HC.out HL.out E1.out).mono ?_;rintro e w2 ⟨v0,rfl,ho,hb⟩;obtain ⟨A',c',rfl⟩:=Kd.R_slice ho;have HO:=Aside0.mk ho;have HB:=Aside0.mk hb;clear ho hb))
    have hmax:fr.length≤9223372036854775807:=(Kd.R_reads' HO.out).2.2.2.1
    have hbv:bv<w1.heap.size:=HM1.out.lt
    have HR0:=Aside0.mk (Kd.R_mono (ok':=fun k_=>w1.heap.size≤k_) (Kd.R_bound HO.out) (fun k_ hk_=>hk_.2.1))
    have HM2:=Aside0.mk (HM1.out.step HB.out)
    have HG2:=Aside0.mk (grown_both HG1.out (grown_below HB.out (some bv)))
    clear HO
    go_loopg [8,23] fr.length (fun gg _ s23 wr=>∃ (j:Nat) (vj:Int→Int),j≤fr.length∧fr.length - j≤gg∧s23 = .int .i64 j∧Aside0 (Mp.MapIs Tryd.prog 3 wr bv (visF vj))∧Aside0 (W.grownBy wr (some bv))∧
     Aside0 (Kd.R (Kd.int .i64) 3 wr w1.heap.size (fun k_=>w1.heap.size≤k_) (.slice A' fr.length c') fr)∧Aside0 (Cat.loopsL (impl_SubOk.lF K kn k) vj (fr.drop j)=some (b1,v1)))
    case atStart=>exact ⟨0,Cat.upd v a 1,Nat.zero_le _,by omega,rfl,HM2,HG2,HR0,⟨by rw [List.drop_zero];exact E2.out⟩⟩
    case round=>
     obtain ⟨j,vj,hj,hgg,rfl,HMJ,HGJ,HRJ,HLJ⟩:=hrel
     by_cases hlt:j<fr.length
     ·have hltz:(j:Int)<(fr.length:Int):=by omega
      have hl:=HLJ.out
      rw [List.drop_eq_getElem_cons hlt,Cat.loopsL] at hl
      cases ex:impl_SubOk.lF K kn k vj fr[j] with
      | none=>rw [ex] at hl;cases hl
      | some q=>
      obtain ⟨bx,vx⟩:=q
      rw [ex] at hl
      simp only [Option.bind_some] at hl
      have hcall:=HI.out vj fr[j] bx vx wr ex HMJ.out (grown_both HG.out HGJ.out)
      obtain ⟨ad,e1,hx0⟩:=int_at (Kd.R_reads' HRJ.out).2.2 j hlt
      have ey:fr.getD j 0=fr[j]:=by simp [List.getD,hlt]
      rw [ey] at hx0
      generalize fr[j]=y at hx0 hcall ex
      cases e1
      have HLL:=Aside0.mk hl
      clear hl ex ey
      cases bx with
      | true=>
       go_wp2_with (go_at_call 64;refine hcall.mono ?_;rintro e w' ⟨rfl,hm',hg'⟩;have HM':=Aside0.mk hm';have HG':=Aside0.mk hg';clear hm' hg')
       go_ret
       have h1:=HLL.out
       rw [if_pos (by simp)] at h1
       obtain ⟨rfl,rfl⟩:=Prod.mk.inj (Option.some.inj h1)
       have h2:=E3.out
       rw [if_pos (by simp)] at h2
       obtain ⟨rfl,rfl⟩:=Prod.mk.inj (Option.some.inj h2)
       exact ⟨rfl,HM'.out,grown_both HGJ.out HG'.out⟩
      | false=>
       go_wp2_with (go_at_call 64;refine hcall.mono ?_;rintro e w' ⟨rfl,hm',hg'⟩;have HM':=Aside0.mk hm';have HG':=Aside0.mk hg';clear hm' hg')
       go_roundg (fr.length - (j+1))
       case measure=>omega
       case rel=>
        refine ⟨j+1,vx,by omega,by omega,by go_num,HM',⟨grown_both HGJ.out HG'.out⟩,⟨Kd.R_step HRJ.out (fun k_ hk_ hl_=>HG'.out.block k_ hl_ (fun e_=>by injection e_ with e_;omega))⟩,⟨?_⟩⟩
        have h1:=HLL.out
        rwa [if_neg (by simp)] at h1
     ·have hltz:¬ (j:Int)<(fr.length:Int):=by omega
      have hl:=HLJ.out
      rw [List.drop_eq_nil_of_le (by omega),Cat.loopsL] at hl
      obtain ⟨rfl,rfl⟩:=Prod.mk.inj (Option.some.inj hl)
      have h2:=E3.out
      rw [if_neg (by simp)] at h2
      obtain ⟨rfl,rfl⟩:=Prod.mk.inj (Option.some.inj h2)
      clear hl h2
      go_wp2_with (at_mapUpdate;refine Mp.wpList_mapUpdate_is rfl (.tmp 32) (.tmp 33) _ _ rfl 3 3 hu3 Tryd.underlying79 bv (visF vj) rfl HMJ.out a rfl a0 a1 (.int .i64 2) rfl ?_;intro w3 hm3 hg3;rw [visF_upd vj a 2 (by decide)] at hm3;have HM3:=Aside0.mk hm3;have HG3:=Aside0.mk hg3;clear hm3 hg3)
      go_ret
      exact ⟨rfl,HM3.out,grown_both HGJ.out HG3.out⟩
set_option maxHeartbeats 4000000 in
set_option maxRecDepth 100000 in
theorem subok_pred (K:Nat) (kn:Int→List Cat.Cell) (Kn:Int→Option Value) (w:World) (bv bk gv gk:Nat)
  (hk:∀ W,w.grownBy W (some bv)→Mp.MapIs Tryd.prog 3 W bk Kn∧Known W Kn kn)
  (hc:∀ W,w.grownBy W (some bv)→W.cell? ⟨gv,0,none⟩=some (.map (some bv))∧W.cell? ⟨gk,0,none⟩=some (.map (some bk))) :
  PredB 63 #[.pointer (some ⟨gv,0,none⟩),.pointer (some ⟨gk,0,none⟩)] (some bv) (fun v x=>impl_SubOk.lF K kn K v x.f0) (fun v W=>Mp.MapIs Tryd.prog 3 W bv (visF v)) w:=by
 intro s s' x b W A c h hg hJ hl hC
 obtain ⟨hcv,hck⟩:=hc W hg
 have hlv:=World.block_lt_of_cell? W _ hcv
 have hlk:=World.block_lt_of_cell? W _ hck
 have hlv:gv<W.heap.size:=hlv
 have hlk:gk<W.heap.size:=hlk
 have hB:∀ o,Below W.heap.size W (W.alloc o):=fun o=>(Below.refl _ _).alloc (Nat.le_refl _) o
 have HL:=Aside0.mk (fun o=>visit_loops K kn Kn w bv bk hk K s x.f0 b s' (W.alloc o) h (hJ.step (hB o)) (grown_both hg (grown_below (hB o) _)))
 have HB:=Aside0.mk hB
 clear h hJ hl hC hk hc hg hB
 show Calls Tryd.prog 63 #[.agg #[.int .i64 x.f0,.slice A x.f1.length c],.pointer (some ⟨gv,0,none⟩),.pointer (some ⟨gk,0,none⟩)] W _
 go_enter Tryd.func63,Tryd.ntmps63
 go_wp2_with (go_at_call 64;refine (HL.out _).mono ?_;rintro e w' ⟨rfl,hm',hg'⟩;have HM':=Aside0.mk hm';have HG':=Aside0.mk hg';clear hm' hg')
 go_ret
 exact ⟨rfl,HM'.out,grown_both (grown_below (HB.out _) _) HG'.out⟩
/-- the bindings one by one, as the program looks at them: what is known then; none, if one is not ok -/
def impl_SubOk.go:(Int→Option (List Cat.Cell))→List Cat.Bind→Option (Int→Option (List Cat.Cell))
 | kn,[]=>some kn
 | kn,b :: s=>if (kn b.f0).isSome=true∨¬ (0≤b.f0∧b.f0≤99999)∨Cat.isTerm b.f1=false then none else impl_SubOk.go (Cat.upd kn b.f0 (some b.f1)) s
def impl_SubOk.f (K:Nat) (l0:List (S30)):Option Bool:=
 if (l0.all fun b=>(Lit.int .i64 b.f0).wf)=true then match impl_SubOk.go (fun _=>none) l0 with
 | none=>some false
 | some kn=>(anyS (fun v (x:Cat.Bind)=>impl_SubOk.lF K (fun z=>(kn z).getD []) K v x.f0) (fun _=>0) l0).map fun r=>!r.1
 else none
/-- what is known, in memory: the terms lie in w0 -/
def Knows (w0 w:World) (b:Nat) (kn:Int→Option (List Cat.Cell)):Prop:=
 ∃ Kn,Mp.MapIs Tryd.prog 3 w b Kn∧∀ z,(Kn z=none∧kn z=none)∨∃ A t c,kn z=some t∧Kn z=some (.slice A t.length c)∧t.length≤c∧Kd.C k46 w0 A t.length t
set_option maxHeartbeats 8000000 in
set_option maxRecDepth 100000 in
theorem impl_SubOk.calls (k:Nat) (A0:Option Addr) (c0:Nat) (l0:List (S30)) (r:Bool) (w:World) (hr0:Kd.C k30 w A0 l0.length l0) (hc0:l0.length≤c0) (h:impl_SubOk.f k l0=some r) :
  Calls Tryd.prog 26 #[.slice A0 l0.length c0] w fun e w'=>e = .returned (.bool r)∧Below w.heap.size w w':=by
 have HR:=Aside0.mk hr0
 unfold impl_SubOk.f at h
 by_cases hw0:(l0.all fun b=>(Lit.int .i64 b.f0).wf)=true
 case neg=>rw [if_neg hw0] at h;cases h
 rw [if_pos hw0] at h
 have HW0:=Aside0.mk (List.all_eq_true.1 hw0)
 have HH:=Aside0.mk h
 have hm:l0.length≤9223372036854775807:=hr0.2.1
 have hu3:=Tryd.underlying3
 have hmm:=@run_makeMap Tryd.prog
 clear hr0 h hw0
 go_enter Tryd.func26,Tryd.ntmps26
 go_wp2
 have hB1:Below w.heap.size w ((w.alloc (.map #[] 0)).alloc (.cells #[.map (some w.heap.size)] 77)):=((Below.refl _ w).alloc (Nat.le_refl _) _).alloc (by simp) _
 have hc1:((w.alloc (.map #[] 0)).alloc (.cells #[.map (some w.heap.size)] 77)).cell? ⟨w.heap.size+1,0,none⟩=some (.map (some w.heap.size)):=by simp [go_sem]
 have hk1:Knows w ((w.alloc (.map #[] 0)).alloc (.cells #[.map (some w.heap.size)] 77)) w.heap.size (fun _=>none):=
  ⟨fun _=>none,(Mp.MapIs.made _ _ w).step ((Below.refl _ _).alloc (Nat.le_refl _) _),fun z=>.inl ⟨rfl,rfl⟩⟩
 generalize ((w.alloc (.map #[] 0)).alloc (.cells #[.map (some w.heap.size)] 77))=W1 at hB1 hc1 hk1 ⊢
 have HB1:=Aside0.mk hB1
 have HC1:=Aside0.mk hc1
 have HK1:=Aside0.mk hk1
 clear hB1 hc1 hk1
 have hz0:(w.heap.size:Nat)<w.heap.size+1:=Nat.lt_succ_self _
 go_loopg [5,6,7,12,16] l0.length (fun gg _ _ _ s12 _ wr=>∃ (j:Nat) (kn:Int→Option (List Cat.Cell)),j≤l0.length∧l0.length - j≤gg∧s12 = .int .i64 j∧Aside0 (Below w.heap.size w wr)∧Aside0 (wr.cell? ⟨w.heap.size+1,0,none⟩=some (.map (some w.heap.size)))∧
  Aside0 (Knows w wr w.heap.size kn)∧Aside0 (impl_SubOk.go (fun _=>none) l0=impl_SubOk.go kn (l0.drop j)))
 case atStart=>exact ⟨0,fun _=>none,Nat.zero_le _,by omega,rfl,HB1,HC1,HK1,⟨by rw [List.drop_zero]⟩⟩
 case round=>
  obtain ⟨j,kn,hj,hgg,rfl,BW,CW,KW,GW⟩:=hrel
  by_cases hlt:j<l0.length
  ·have hltz:(j:Int)<(l0.length:Int):=by omega
   obtain ⟨ad,A1,c1,e1,hx0,hx1,hl1,hC1⟩:=at_T30 HR.out (j:Int) (by omega) hltz
   cases e1
   rw [Int.toNat_natCast] at hx0 hx1
   have ey:rd_T30 l0 (j:Int)=l0[j]:=by simp [rd_T30,List.getD,hlt]
   rw [ey] at hx0 hx1 hl1 hC1
   replace hx0:=(BW.out.cell (World.block_lt_of_cell? w _ hx0)).trans hx0
   replace hx1:=(BW.out.cell (World.block_lt_of_cell? w _ hx1)).trans hx1
   have hgo:=GW.out
   rw [List.drop_eq_getElem_cons hlt,impl_SubOk.go] at hgo
   have hwf:=HW0.out l0[j] (List.getElem_mem hlt)
   generalize l0[j]=x at hx0 hx1 hl1 hC1 hgo hwf
   have HWF:=Aside0.mk hwf
   clear hwf
   have hck:=CW.out
   have hlk:w.heap.size+1<wr.heap.size:=World.block_lt_of_cell? wr _ hck
   have had:=World.block_lt_of_cell? wr _ hx0
   rw [add_block] at had
   have HBA:∀ o,Aside0 (Below wr.heap.size wr (wr.alloc o)):=fun o=>⟨(Below.refl _ _).alloc (Nat.le_refl _) o⟩
   have HBD:∀ o n,Aside0 (Below wr.heap.size wr ((wr.alloc o).drewN n)):=fun o n=>⟨pw_below_drewN (HBA o).out n⟩
   obtain ⟨Kn,hKm,hKk⟩:=KW.out
   have HKM:=Aside0.mk hKm
   have HGO:=Aside0.mk hgo
   have HL1:=Aside0.mk hl1
   have HCC:=Aside0.mk hC1
   have HKK:=Aside0.mk hKk
   clear hKm hgo hl1 hC1 ey hKk
   by_cases hs:(kn x.f0).isSome=true
   ·obtain ⟨v,hv⟩:∃ v,Kn x.f0=some v:=by
     rcases HKK.out x.f0 with ⟨_,h2⟩|⟨A,t,c,_,h2,_⟩
     ·rw [h2] at hs;cases hs
     ·exact ⟨_,h2⟩
    have HV:=Aside0.mk hv
    have HG1:=Aside0.mk (HGO.out.trans (if_pos (.inl hs)))
    clear hv hs
    go_wp2_with (at_lookup;refine Mp.wpList_lookup_is rfl (.tmp 17) (.tmp 19) _ _ rfl 3 26 hu3 Tryd.underlying77 _ (zero_cells _) w.heap.size Kn rfl (HKM.out.step (HBA _).out) x.f0 rfl HWF.out ?_;simp only [if_true];rw [HV.out];simp only [Option.getD_some,Option.isSome_some])
    go_ret
    have h1:=HH.out
    rw [HG1.out] at h1
    exact ⟨by rw [← Option.some.inj h1];rfl,BW.out.trans ((HBA _).out.mono BW.out.size)⟩
   ·have hv:Kn x.f0=none:=by
     rcases HKK.out x.f0 with ⟨h1,_⟩|⟨A,t,c,h2,_⟩
     ·exact h1
     ·rw [h2] at hs;exact absurd rfl hs
    have HV:=Aside0.mk hv
    have HS:=Aside0.mk hs
    clear hv hs
    by_cases hr:0≤x.f0∧x.f0≤99999
    case neg=>
     have HG1:=Aside0.mk (HGO.out.trans (if_pos (.inr (.inl hr))))
     have HI:=Aside0.mk (show impl_in.f x.f0 0 99999=some false by rw [in_pure,decide_eq_false hr])
     clear hr
     go_wp2_with (first
      | (at_lookup;refine Mp.wpList_lookup_is rfl (.tmp 17) (.tmp 19) _ _ rfl 3 26 hu3 Tryd.underlying77 _ (zero_cells _) w.heap.size Kn rfl (HKM.out.step (HBA _).out) x.f0 rfl HWF.out ?_;simp only [if_true];rw [HV.out];simp only [Option.getD_none,Option.isSome_none])
      | (go_at_call 61;refine (impl_in.calls _ _ _ _ _ HI.out).mono ?_;rintro e w' ⟨rfl,hd⟩;obtain ⟨⟨nd,rfl⟩⟩:=hd))
     go_ret
     have h1:=HH.out
     rw [HG1.out] at h1
     exact ⟨by rw [← Option.some.inj h1];rfl,BW.out.trans ((HBD _ _).out.mono BW.out.size)⟩
    case pos=>
     have HI:=Aside0.mk (show impl_in.f x.f0 0 99999=some true by rw [in_pure,decide_eq_true hr])
     cases ht:Cat.isTerm x.f1 with
     | false=>
      have HG1:=Aside0.mk (HGO.out.trans (if_pos (.inr (.inr ht))))
      have HT:=Aside0.mk (show impl_TrmOk.f x.f1=some false from congrArg some ht)
      clear hr ht
      go_wp2_with (first
       | (at_lookup;refine Mp.wpList_lookup_is rfl (.tmp 17) (.tmp 19) _ _ rfl 3 26 hu3 Tryd.underlying77 _ (zero_cells _) w.heap.size Kn rfl (HKM.out.step (HBA _).out) x.f0 rfl HWF.out ?_;simp only [if_true];rw [HV.out];simp only [Option.getD_none,Option.isSome_none])
       | (go_at_call 61;refine (impl_in.calls _ _ _ _ _ HI.out).mono ?_;rintro e w' ⟨rfl,hd⟩;obtain ⟨⟨nd,rfl⟩⟩:=hd)
       | (go_at_call 42;refine (impl_TrmOk.calls A1 c1 x.f1 false _ (Kd.C_below HCC.out (BW.out.trans ((HBD _ _).out.mono BW.out.size))) HL1.out HT.out).mono ?_;rintro e w' ⟨rfl,hb⟩;have HB':=Aside0.mk hb;clear hb))
      go_ret
      have h1:=HH.out
      rw [HG1.out] at h1
      exact ⟨by rw [← Option.some.inj h1];rfl,BW.out.trans (((HBD _ _).out.trans (HB'.out.mono (HBD _ _).out.size)).mono BW.out.size)⟩
     | true=>
      have HG1:=Aside0.mk (HGO.out.trans (if_neg (fun e=>e.elim HS.out (fun e=>e.elim (fun e=>e hr) (fun e=>by rw [ht] at e;cases e)))))
      have HT:=Aside0.mk (show impl_TrmOk.f x.f1=some true from congrArg some ht)
      obtain ⟨r0,r1⟩:=hr
      clear ht
      have hAx:=Aside0.mk (show ∀ W,Below wr.heap.size wr W→Mp.MapIs Tryd.prog 3 W w.heap.size Kn from fun W hb=>HKM.out.step hb)
      go_wp2_with (first
       | (at_lookup;refine Mp.wpList_lookup_is rfl (.tmp 17) (.tmp 19) _ _ rfl 3 26 hu3 Tryd.underlying77 _ (zero_cells _) w.heap.size Kn rfl (HKM.out.step (HBA _).out) x.f0 rfl HWF.out ?_;simp only [if_true];rw [HV.out];simp only [Option.getD_none,Option.isSome_none])
       | (go_at_call 61;refine (impl_in.calls _ _ _ _ _ HI.out).mono ?_;rintro e w' ⟨rfl,hd⟩;obtain ⟨⟨nd,rfl⟩⟩:=hd)
       | (go_at_call 42;refine (impl_TrmOk.calls A1 c1 x.f1 true _ (Kd.C_below HCC.out (BW.out.trans ((HBD _ _).out.mono BW.out.size))) HL1.out HT.out).mono ?_;rintro e w' ⟨rfl,hb⟩;have HB':=Aside0.mk ((HBD _ _).out.trans (hb.mono (HBD _ _).out.size));have q1:w'.cell? ⟨w.heap.size+1,0,none⟩=some (.map (some w.heap.size)):=(HB'.out.cell (p:=⟨w.heap.size+1,0,none⟩) hlk).trans hck;have q2:w'.cell? ⟨wr.heap.size,0,none⟩=some (.int .i64 x.f0):=(hb.cell (p:=⟨wr.heap.size,0,none⟩) (by simp)).trans (by simp [go_sem]);have q3:w'.cell? ⟨wr.heap.size,1,none⟩=some (.slice A1 x.f1.length c1):=(hb.cell (p:=⟨wr.heap.size,1,none⟩) (by simp)).trans (by simp [go_sem]);clear hb)
       | (at_mapUpdate;refine Mp.wpList_mapUpdate_is rfl (.tmp 36) (.tmp 38) _ _ rfl 3 26 hu3 Tryd.underlying77 w.heap.size Kn rfl (hAx.out _ HB'.out) x.f0 rfl r0 r1 (.slice A1 x.f1.length c1) rfl ?_;intro w3 hm3 hg3;have HM3:=Aside0.mk hm3;have HG3:=Aside0.mk hg3;clear hm3 hg3))
      go_roundg (l0.length - (j+1))
      case measure=>omega
      case rel=>
       have hb2:Below w.heap.size w w':=BW.out.trans (HB'.out.mono BW.out.size)
       refine ⟨j+1,Cat.upd kn x.f0 (some x.f1),by omega,by omega,by go_num,⟨hb2.grown HG3.out hb2.size (fun k_ e_=>by injection e_ with e_;omega)⟩,⟨?_⟩,⟨Cat.upd Kn x.f0 (some (.slice A1 x.f1.length c1)),HM3.out,fun z=>?_⟩,HG1⟩
       ·exact (World.cell?_of_block (HG3.out.block (w.heap.size+1) (World.block_lt_of_cell? w' _ q1) (fun e_=>by injection e_ with e_;omega))).trans q1
       ·by_cases hz:z=x.f0
        ·subst hz
         rw [Cat.upd_same,Cat.upd_same]
         exact .inr ⟨A1,x.f1,c1,rfl,rfl,HL1.out,HCC.out⟩
        ·rw [Cat.upd_ne _ _ hz,Cat.upd_ne _ _ hz]
         exact HKK.out z
  ·have hltz:¬ (j:Int)<(l0.length:Int):=by omega
   have hgo:=GW.out
   rw [List.drop_eq_nil_of_le (by omega),impl_SubOk.go] at hgo
   have hh:=HH.out
   rw [hgo] at hh
   simp only at hh
   obtain ⟨⟨b1,v1⟩,ha,hr1⟩:=Option.map_eq_some_iff.1 hh
   simp only at hr1
   subst hr1
   obtain ⟨Kn,hKm,hKk⟩:=KW.out
   have hck:=CW.out
   have hlk:w.heap.size+1<wr.heap.size:=World.block_lt_of_cell? wr _ hck
   have HKM:=Aside0.mk hKm
   have HKK:=Aside0.mk hKk
   have HA:=Aside0.mk ha
   clear hgo hh ha hKm hKk
   have hbv:∀ W,((wr.alloc (.map #[] 0)).alloc (.cells #[.map (some wr.heap.size)] 79)).grownBy W (some wr.heap.size)→Below wr.heap.size wr W:=fun W hg=>
    (((Below.refl _ wr).alloc (Nat.le_refl _) _).alloc (by simp) _).grown hg (by simp;omega) (fun k_ e_=>by injection e_ with e_;omega)
   have hbw:∀ W,((wr.alloc (.map #[] 0)).alloc (.cells #[.map (some wr.heap.size)] 79)).grownBy W (some wr.heap.size)→Below w.heap.size w W:=fun W hg=>BW.out.trans ((hbv W hg).mono BW.out.size)
   have hkk:∀ W,((wr.alloc (.map #[] 0)).alloc (.cells #[.map (some wr.heap.size)] 79)).grownBy W (some wr.heap.size)→Mp.MapIs Tryd.prog 3 W w.heap.size Kn∧Known W Kn (fun z=>(kn z).getD []):=fun W hg=>by
    refine ⟨HKM.out.step (hbv W hg),fun z=>?_⟩
    rcases HKK.out z with ⟨h1,h2⟩|⟨A,t,c,h1,h2,h3,h4⟩
    ·exact .inl ⟨h1,by simp only [h2];rfl⟩
    ·exact .inr ⟨A,c,by simp only [h1,Option.getD_some];exact h2,by simp only [h1,Option.getD_some];exact h3,by simp only [h1,Option.getD_some];exact Kd.C_below h4 (hbw W hg)⟩
   have hcc:∀ W,((wr.alloc (.map #[] 0)).alloc (.cells #[.map (some wr.heap.size)] 79)).grownBy W (some wr.heap.size)→W.cell? ⟨wr.heap.size+1,0,none⟩=some (.map (some wr.heap.size))∧W.cell? ⟨w.heap.size+1,0,none⟩=some (.map (some w.heap.size)):=fun W hg=>by
    refine ⟨(World.cell?_of_block (hg.block (wr.heap.size+1) (by simp) (fun e_=>by injection e_ with e_;omega))).trans (by simp [go_sem]),((hbv W hg).cell (p:=⟨w.heap.size+1,0,none⟩) hlk).trans hck⟩
   have HE:=Aside0.mk (containsFunc_binds 63 #[.pointer (some ⟨wr.heap.size+1,0,none⟩),.pointer (some ⟨w.heap.size+1,0,none⟩)] (some wr.heap.size) _ _ (enters_ Tryd.func63 (by kernel_rfl) rfl) A0 c0 l0 _
    (fun W hg=>Kd.C_below HR.out (hbw W hg)) (subok_pred k _ Kn _ wr.heap.size w.heap.size (wr.heap.size+1) (w.heap.size+1) hkk hcc) (fun _=>0) v1 b1 HA.out
    ((Mp.MapIs.made _ _ wr).step ((Below.refl _ _).alloc (Nat.le_refl _) _)))
   have HBW:=Aside0.mk hbw
   clear hbv hbw hkk hcc hck
   go_wp2_with (go_at_call 62;refine HE.out.mono ?_;rintro e w' ⟨rfl,_,hg⟩;have HG:=Aside0.mk hg;clear hg)
   go_ret
   exact ⟨by cases b1 <;> rfl,HBW.out _ HG.out⟩
/-! ### impl_bindings_get: function 103 -/
/-- the last k numbers below n, the greatest first -/
def down (n k:Nat):List Nat:=(List.range k).map fun t=>n - 1 - t
section
attribute [local go_sem] Oper.semAt_some
end
/-! ### impl_bindings_fill: function 96 -/
end Go.Proofs.YtlaicnoikeieeaaDoor.P
