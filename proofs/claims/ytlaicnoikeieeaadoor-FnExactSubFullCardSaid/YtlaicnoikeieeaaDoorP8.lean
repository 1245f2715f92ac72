/- Contracts of functions of the program: each as a Lean function, and that its call does what that says; printed by cprint.py (this session) over print.py of the kit. Conditions: the hypotheses of each theorem. -/
import Derived.Test.YtlaicnoikeieeaaDoorVZ
import Derived.Test.YtlaicnoikeieeaaDoorP0
import Derived.Test.YtlaicnoikeieeaaDoorP6
import Derived.Test.YtlaicnoikeieeaaDoorP7
namespace Go.Proofs.YtlaicnoikeieeaaDoor.P
open Go.RowKit Go.Proofs.YtlaicnoikeieeaaDoorW.PrintWords Go.Proofs.YtlaicnoikeieeaaDoorW.PrintLast Go.Proofs.YtlaicnoikeieeaaDoorW.PrintMore
attribute [local go_sem] max2_int min2_int max_two min_two max_three min_three max_four min_four   -- for this text's walks alone
set_option linter.unusedVariables false
set_option linter.unusedSimpArgs false

/-! ### impl_bindings_fill: function 96 -/
/-- a term with what is bound, behind others, as the program puts it -/
def fillL (f:List Cat.Cell→List Cat.Cell→Option (List Cat.Cell)) (g:Int→Option (List Cat.Cell)):List Cat.Cell→List Cat.Cell→Option (List Cat.Cell)
 | out,[]=>some out
 | out,c :: l=>if 40<out.length then some out else if c.f0=1 then match g c.f1 with
   | none=>fillL f g (out++[c]) l
   | some t=>if t=[] then none else (f out t).bind fun o=>fillL f g o l
  else fillL f g (out++[c]) l
def fillF (s:List Cat.Bind):Nat→List Cat.Cell→List Cat.Cell→Option (List Cat.Cell)
 | 0,_,_=>none
 | k+1,out,t=>fillL (fillF s k) (getL s) out t
theorem cells_pos {w:World} {A:Option Addr} {t:List Cat.Cell} (h:Kd.C k46 w A t.length t) (hp:t≠[]):∃ ad,A=some ad:=by
 obtain ⟨ad,e,_⟩:=h.2.2 (List.length_pos_iff.2 hp)
 exact ⟨ad,e⟩
set_option maxHeartbeats 8000000 in
set_option maxRecDepth 100000 in
theorem fill_any (w0:World) (A0:Option Addr) (c0:Nat) (s:List Cat.Bind) (hs:Kd.C k30 w0 A0 s.length s):∀ (k:Nat) (out t r:List Cat.Cell) (v:Value) (A:Option Addr) (c:Nat) (W:World),fillF s k out t=some r→
  Kd.R k46 46 W w0.heap.size (fun _=>True) v out→Below w0.heap.size w0 W→Kd.C k46 w0 A t.length t→t.length≤c→
  Calls Tryd.prog 96 #[.slice A0 s.length c0,v,.slice A t.length c] W fun e w'=>∃ v',e = .returned v'∧Kd.R k46 46 w' w0.heap.size (fun _=>True) v' r∧Below w0.heap.size w0 w':=by
 intro k
 induction k with
 | zero=>intro out t r v A c W h;cases h
 | succ k ih=>
  intro out t r v A c W h hR hB hC hl
  rw [fillF] at h
  have HH:=Aside0.mk h
  have HR:=Aside0.mk hR
  have HB:=Aside0.mk hB
  have HC:=Aside0.mk hC
  have HI:=Aside0.mk ih
  have hm:t.length≤9223372036854775807:=hC.2.1
  have hnn:=fun (w:World) (a:Option Addr) (n c:Nat)=>run_neq_slice_nil_any (P:=Tryd.prog) w 26 46 a n c 0 0 Tryd.underlying26
  clear h hR hB hC ih
  obtain ⟨Av,cv,hv⟩:=Kd.R_slice HR.out
  subst hv
  go_enter Tryd.func96,Tryd.ntmps96
  go_wp2
  go_loopg [1,8,9,12] t.length (fun gg u1 _ _ s12 wr=>∃ (j:Nat) (o:List Cat.Cell),j≤t.length∧t.length - j≤gg∧s12 = .int .i64 j∧Aside0 (Kd.R k46 46 wr w0.heap.size (fun _=>True) u1 o)∧Aside0 (Below w0.heap.size w0 wr)∧
   Aside0 (fillL (fillF s k) (getL s) o (t.drop j)=some r))
  case atStart=>exact ⟨0,out,Nat.zero_le _,by omega,rfl,HR,HB,⟨by rw [List.drop_zero];exact HH.out⟩⟩
  case round=>
   obtain ⟨j,o,hj,hgg,rfl,HRo,HBr,HF⟩:=hrel
   obtain ⟨Ao,co,hv⟩:=Kd.R_slice HRo.out
   subst hv
   have hom:o.length≤9223372036854775807:=(Kd.R_reads' HRo.out).2.2.2.1
   by_cases hlt:j<t.length
   ·have hltz:(j:Int)<(t.length:Int):=by omega
    have hl:=HF.out
    rw [List.drop_eq_getElem_cons hlt,fillL] at hl
    obtain ⟨ad,e1,hx0,hx1,hx2⟩:=at_T46 HC.out (j:Int) (by omega) hltz
    cases e1
    rw [Int.toNat_natCast] at hx0 hx1 hx2
    have ey:rd_T46 t (j:Int)=t[j]:=by simp [rd_T46,List.getD,hlt]
    rw [ey] at hx0 hx1 hx2
    generalize t[j]=y at hx0 hx1 hx2 hl
    replace hx0:=(HBr.out.cell (World.block_lt_of_cell? w0 _ hx0)).trans hx0
    replace hx1:=(HBr.out.cell (World.block_lt_of_cell? w0 _ hx1)).trans hx1
    replace hx2:=(HBr.out.cell (World.block_lt_of_cell? w0 _ hx2)).trans hx2
    have had:=World.block_lt_of_cell? wr _ hx0
    rw [add_block] at had
    have HL:=Aside0.mk hl
    clear hl ey
    have HBA:∀ ob,Aside0 (Below wr.heap.size wr (wr.alloc ob)):=fun ob=>⟨(Below.refl _ _).alloc (Nat.le_refl _) ob⟩
    by_cases h40:40<o.length
    ·have h40z:(40:Int)<(o.length:Int):=by omega
     go_wp2
     go_ret
     have h1:=HL.out
     rw [if_pos h40] at h1
     obtain rfl:=Option.some.inj h1
     exact ⟨_,rfl,Kd.R_below HRo.out (HBA _).out,HBr.out.trans ((HBA _).out.mono HBr.out.size)⟩
    ·have h40z:¬ (40:Int)<(o.length:Int):=by omega
     have HL2:=Aside0.mk (HL.out.symm.trans (if_neg h40)).symm
     have HRb:∀ W',Below wr.heap.size wr W'→Aside0 (Kd.R k46 46 W' w0.heap.size (fun _=>True) (.slice Ao o.length co) o):=fun W' hb=>⟨Kd.R_below HRo.out hb⟩
     have HBW:=Aside0.mk (show ∀ W',Below wr.heap.size wr W'→Below w0.heap.size w0 W' from fun W' hb=>HBr.out.trans (hb.mono HBr.out.size))
     by_cases hv:y.f0=1
     ·have HV:=Aside0.mk hv
      have hvt:(y.f0 == 1)=true:=by simpa using hv
      have HL3:=Aside0.mk (HL2.out.symm.trans (if_pos hv)).symm
      clear hv
      cases hg:getL s y.f1 with
      | none=>
       have hl4:=HL3.out
       rw [hg] at hl4
       have HL4:=Aside0.mk hl4
       have HG:=Aside0.mk hg
       clear hl4 hg
       go_wp2_with (first
        | (go_at_call 103;refine (get_calls0 A0 c0 s y.f1 w0 _ hs (HBW.out _ (HBA _).out)).mono ?_;rintro e w' ⟨hq,hb⟩;obtain rfl:e = .returned (.slice none 0 0):=(by rcases hq with ⟨_,e1⟩|⟨t1,A1,c1,e1,_⟩;exact e1;rw [HG.out] at e1;cases e1);have HBG:=Aside0.mk ((HBA _).out.trans (hb.mono (HBA _).out.size));have hc5:w'.cell? ⟨wr.heap.size,0,none⟩=some (.int .i64 y.f0):=(hb.cell (p:=⟨wr.heap.size,0,none⟩) (by simp)).trans (by simp [go_sem]);have hc6:w'.cell? ⟨wr.heap.size,1,none⟩=some (.int .i64 y.f1):=(hb.cell (p:=⟨wr.heap.size,1,none⟩) (by simp)).trans (by simp [go_sem]);have hc7:w'.cell? ⟨wr.heap.size,2,none⟩=some (.string y.f2):=(hb.cell (p:=⟨wr.heap.size,2,none⟩) (by simp)).trans (by simp [go_sem]);have hgs:=hb.size;clear hb hq)
        | ((with_reducible refine gate_builtin (b:=.append) (xs:=#[.tmp 33,.tmp 35]) rfl ?_);at_builtin;refine Kd.R_append k46 (w0:=w0) w0.heap.size rfl (.tmp 33) (.tmp 35) 26 46 (.agg #[(.int .i64 0),(.int .i64 0),(.string ⟨#[]⟩)]) 32 rfl Tryd.underlying26 info46 rfl (by decide) (by omega) (.slice Ao o.length co) o y [.int .i64 y.f0,.int .i64 y.f1,.string y.f2] (fun _=>True) (fun _=>False) rfl (by first|rfl|(simp [go_sem];done)|(go_simp;done)) ?aP (fun _ hk=>hk.elim) ?aF ?aO ?aB ?aS ?aL ?_;(case aP=>exact k46_mkM _ _ _ y);(case aF=>exact fun _ _=>trivial);(case aO=>exact (HRb _ HBG.out).out);(case aB=>exact HBW.out _ HBG.out);(case aS=>exact Nat.le_trans HBr.out.size HBG.out.size);(case aL=>omega);intro v9 w9 ho9 hb9 hg9 hat9;clear hg9 hat9))
       go_roundg (t.length - (j+1))
       case measure=>omega
       case rel=>
        exact ⟨j+1,_,by omega,by omega,by go_num,⟨ho9⟩,⟨hb9⟩,HL4⟩
      | some t1=>
       have hl4:=HL3.out
       rw [hg] at hl4
       replace hl4:(if t1=[] then none else (fillF s k o t1).bind fun o=>fillL (fillF s k) (getL s) o (t.drop (j+1)))=some r:=hl4
       have HG:=Aside0.mk hg
       have ht1:t1≠[]:=by
        intro e1
        rw [e1] at hl4
        simp at hl4
       have hl5:=hl4
       rw [if_neg ht1] at hl5
       obtain ⟨o1,ho1,ho2⟩:=Option.bind_eq_some_iff.1 hl5
       have HO1:=Aside0.mk ho1
       have HL4:=Aside0.mk ho2
       clear ho1 ho2 hl4 hl5 hg
       go_wp2_with (first
        | (go_at_call 103;refine (get_calls0 A0 c0 s y.f1 w0 _ hs (HBW.out _ (HBA _).out)).mono ?_;rintro e w' ⟨hq,hb⟩;obtain ⟨A1,c1,rfl,hc1,hC1⟩:∃ A1 c1,e = .returned (.slice A1 t1.length c1)∧t1.length≤c1∧Kd.C k46 w0 A1 t1.length t1:=(by rcases hq with ⟨hn,_⟩|⟨t2,A1,c1,h2,e1,h3,h4⟩;(rw [HG.out] at hn;cases hn);(rw [HG.out] at h2;injection h2 with h2;subst h2;exact ⟨A1,c1,e1,by assumption,by assumption⟩));obtain ⟨ad1,rfl⟩:=cells_pos hC1 ht1;have HC1:=Aside0.mk hC1;have HBG:=Aside0.mk ((HBA _).out.trans (hb.mono (HBA _).out.size));clear hq hb hC1)
        | (go_at_call 96;refine (HI.out o t1 o1 (.slice Ao o.length co) (some ad1) c1 _ HO1.out (HRb _ HBG.out).out (HBW.out _ HBG.out) HC1.out hc1).mono ?_;rintro e w9 ⟨v9,rfl,ho9,hb9⟩))
       go_roundg (t.length - (j+1))
       case measure=>omega
       case rel=>
        exact ⟨j+1,_,by omega,by omega,by go_num,⟨ho9⟩,⟨hb9⟩,HL4⟩
     ·have hvf:(y.f0 == 1)=false:=by simpa using hv
      have HL4:=Aside0.mk (HL2.out.symm.trans (if_neg hv)).symm
      clear hv
      have HBG:Aside0 (Below wr.heap.size wr (wr.alloc (.cells #[.int .i64 y.f0,.int .i64 y.f1,.string y.f2] 46))):=HBA _
      go_wp2_with (first
       | ((with_reducible refine gate_builtin (b:=.append) (xs:=#[.tmp 33,.tmp 35]) rfl ?_);at_builtin;refine Kd.R_append k46 (w0:=w0) w0.heap.size rfl (.tmp 33) (.tmp 35) 26 46 (.agg #[(.int .i64 0),(.int .i64 0),(.string ⟨#[]⟩)]) 32 rfl Tryd.underlying26 info46 rfl (by decide) (by omega) (.slice Ao o.length co) o y [.int .i64 y.f0,.int .i64 y.f1,.string y.f2] (fun _=>True) (fun _=>False) rfl (by first|rfl|(simp [go_sem];done)|(go_simp;done)) ?aP (fun _ hk=>hk.elim) ?aF ?aO ?aB ?aS ?aL ?_;(case aP=>exact k46_mkM _ _ _ y);(case aF=>exact fun _ _=>trivial);(case aO=>exact (HRb _ HBG.out).out);(case aB=>exact HBW.out _ HBG.out);(case aS=>exact Nat.le_trans HBr.out.size HBG.out.size);(case aL=>omega);intro v9 w9 ho9 hb9 hg9 hat9;clear hg9 hat9))
      go_roundg (t.length - (j+1))
      case measure=>omega
      case rel=>
       exact ⟨j+1,_,by omega,by omega,by go_num,⟨ho9⟩,⟨hb9⟩,HL4⟩
   ·have hltz:¬ (j:Int)<(t.length:Int):=by omega
    have hl:=HF.out
    rw [List.drop_eq_nil_of_le (by omega),fillL] at hl
    obtain rfl:=Option.some.inj hl
    clear hl
    go_wp2
    go_ret
    exact ⟨_,rfl,HRo.out,HBr.out⟩

/-! ### impl_bindings_full: function 75 -/
/-- a term with what is bound; false, if it is too big -/
def impl_bindings_full.f (k:Nat) (l0:List (S30)) (l1:List (S46)):Option (List (S46) × Bool):=
 (fillF l0 k [] l1).bind fun o=>if 40<o.length then some ([],false) else some (o,true)
set_option maxHeartbeats 4000000 in
set_option maxRecDepth 100000 in
theorem impl_bindings_full.calls (k:Nat) (A0:Option Addr) (c0:Nat) (l0:List (S30)) (A1:Option Addr) (c1:Nat) (l1:List (S46)) (r1:List (S46)) (r2:Bool) (w:World) (hr0:Kd.C k30 w A0 l0.length l0) (hc0:l0.length≤c0) (hr1:Kd.C k46 w A1 l1.length l1) (hc1:l1.length≤c1) (h:impl_bindings_full.f k l0 l1=some (r1,r2)) :
  Calls Tryd.prog 75 #[.slice A0 l0.length c0,.slice A1 l1.length c1] w fun e w'=>∃ v0_:Value,e = .returned (.tuple #[v0_,.bool r2])∧Kd.R k46 46 w' w.heap.size (fun _=>True) v0_ r1∧Below w.heap.size w w':=by
 unfold impl_bindings_full.f at h
 obtain ⟨o,ho,h2⟩:=Option.bind_eq_some_iff.1 h
 have HO:=Aside0.mk ho
 have H2:=Aside0.mk h2
 have HR0:=Aside0.mk hr0
 have HR1:=Aside0.mk hr1
 clear h ho h2 hr0 hr1
 go_enter Tryd.func75,Tryd.ntmps75
 by_cases h40:40<o.length
 ·have h40z:(40:Int)<(o.length:Int):=by omega
  have H3:=H2.out
  rw [if_pos h40] at H3
  injection H3 with H3
  injection H3 with e1 e2
  subst e1 e2
  go_wp2_with (go_at_call 96;refine (fill_any w A0 c0 l0 HR0.out k [] l1 o (.slice none 0 0) A1 c1 _ HO.out (Kd.R_nil _ _ _ _ _) (by repeat (first|exact Below.refl _ _|refine Below.alloc ?_ (by simp) _)) HR1.out hc1).mono ?_;rintro e w9 ⟨v9,rfl,ho9,hb9⟩;obtain ⟨A9,c9,rfl⟩:=Kd.R_slice ho9;have hm9:=(Kd.R_reads' ho9).2.2.2.1;have HO9:=Aside0.mk ho9;have HB9:=Aside0.mk hb9;clear ho9 hb9)
  go_ret2
  exact ⟨_,rfl,Kd.R_nil _ _ _ _ _,HB9.out⟩
 ·have h40z:¬ (40:Int)<(o.length:Int):=by omega
  have H3:=H2.out
  rw [if_neg h40] at H3
  injection H3 with H3
  injection H3 with e1 e2
  subst e1 e2
  go_wp2_with (go_at_call 96;refine (fill_any w A0 c0 l0 HR0.out k [] l1 o (.slice none 0 0) A1 c1 _ HO.out (Kd.R_nil _ _ _ _ _) (by repeat (first|exact Below.refl _ _|refine Below.alloc ?_ (by simp) _)) HR1.out hc1).mono ?_;rintro e w9 ⟨v9,rfl,ho9,hb9⟩;obtain ⟨A9,c9,rfl⟩:=Kd.R_slice ho9;have hm9:=(Kd.R_reads' ho9).2.2.2.1;have HO9:=Aside0.mk ho9;have HB9:=Aside0.mk hb9;clear ho9 hb9)
  go_ret2
  exact ⟨_,rfl,HO9.out,HB9.out⟩

/-! ### impl_SubFull: function 36 -/
def impl_SubFull.f (k:Nat) (l0:List (S30)) (l1:List (S46)):Option ((List (S46)) × Bool):=(impl_SubOk.f k l0).bind fun t267=>(if t267=true then ((impl_TrmOk.f l1).bind fun t268=>(if t268=true then ((impl_bindings_full.f k l0 l1).bind fun bt269=>(some (bt269.1,bt269.2))) else (some (([]:List (S46)),false)))) else (some (([]:List (S46)),false)))
set_option maxHeartbeats 8000000 in
set_option maxRecDepth 100000 in
theorem impl_SubFull.calls (k:Nat) (A0:Option Addr) (c0:Nat) (l0:List (S30)) (A1:Option Addr) (c1:Nat) (l1:List (S46)) (r1:List (S46)) (r2:Bool) (w:World) (hr0:Kd.C k30 w A0 l0.length l0) (hc0:l0.length≤c0) (hr1:Kd.C k46 w A1 l1.length l1) (hc1:l1.length≤c1) (h:impl_SubFull.f k l0 l1=some (r1,r2)) :
  Calls Tryd.prog 36 #[.slice A0 l0.length c0,.slice A1 l1.length c1] w fun e w'=>∃ v0_:Value,e = .returned (.tuple #[v0_,.bool r2])∧Kd.R k46 46 w' w.heap.size (fun _=>True) v0_ r1∧Below w.heap.size w w':=by
 have HR0:=Aside0.mk hr0
 have HC0:=Aside0.mk hc0
 clear hr0 hc0
 have HR1:=Aside0.mk hr1
 have HC1:=Aside0.mk hc1
 clear hr1 hc1
 have HB:=Aside0.mk (Below.refl w.heap.size w)
 have H:((impl_SubOk.f k l0).bind fun t267=>(if t267=true then ((impl_TrmOk.f l1).bind fun t268=>(if t268=true then ((impl_bindings_full.f k l0 l1).bind fun bt269=>(some (bt269.1,bt269.2))) else (some (([]:List (S46)),false)))) else (some (([]:List (S46)),false))))=some (r1,r2):=h
 clear h
 replace H:=Option.bind_eq_some_iff.mp H
 obtain ⟨t267,A30,H⟩:=H
 try dsimp only at H
 have A3:=Aside0.mk A30
 clear A30
 by_cases c4:t267=true
 ·subst c4
  have H1:((impl_TrmOk.f l1).bind fun t268=>(if t268=true then ((impl_bindings_full.f k l0 l1).bind fun bt269=>(some (bt269.1,bt269.2))) else (some (([]:List (S46)),false))))=some (r1,r2):=qz29
  clear H
  have H:=H1
  clear H1
  replace H:=Option.bind_eq_some_iff.mp H
  obtain ⟨t268,A50,H⟩:=H
  try dsimp only at H
  have A5:=Aside0.mk A50
  clear A50
  by_cases c6:t268=true
  ·subst c6
   have H1:((impl_bindings_full.f k l0 l1).bind fun bt269=>(some (bt269.1,bt269.2)))=some (r1,r2):=qz29
   clear H
   have H:=H1
   clear H1
   replace H:=Option.bind_eq_some_iff.mp H
   obtain ⟨⟨t269,t270⟩,A70,H⟩:=H
   try dsimp only at H
   have A7:=Aside0.mk A70
   clear A70
   simp only [Option.some.injEq,Prod.mk.injEq] at H
   obtain ⟨rfl,rfl⟩:=H
   go_enter Tryd.func36,Tryd.ntmps36
   go_wp2_with (first|(go_at_call 26;(with_reducible refine (impl_SubOk.calls k _ _ l0 true _ ?side1 ?side2 A3.out).mono ?_);(case side1=>exact qz21);(case side2=>exact HC0.out);rintro e w8 ⟨rfl,hb⟩;have n0_:=Aside0.mk (below_step qz1 hb);clear HB;have HB:=n0_;clear n0_;(try clear hb);(try clear hb2);(try clear hk);(try clear hi))|(go_at_call 42;(with_reducible refine (impl_TrmOk.calls _ _ l1 true _ ?side1 ?side2 A5.out).mono ?_);(case side1=>exact qz19);(case side2=>exact HC1.out);rintro e w9 ⟨rfl,hb⟩;have n0_:=Aside0.mk (below_step qz1 hb);clear HB;have HB:=n0_;clear n0_;(try clear hb);(try clear hb2);(try clear hk);(try clear hi))|(go_at_call 75;(with_reducible refine (impl_bindings_full.calls k _ _ l0 _ _ l1 t269 t270 _ ?side1 ?side2 ?side3 ?side4 A7.out).mono ?_);(case side1=>exact qz34);(case side2=>exact HC0.out);(case side3=>exact qz19);(case side4=>exact HC1.out);rintro e w10 ⟨v271,rfl,ho0,hb⟩;have n0_:=Aside0.mk (Kd.R_lower ho0 (below_size qz1));have n1_:=Aside0.mk (below_step qz1 hb);clear HB;have HO272:=n0_;have HB:=n1_;clear n0_ n1_;(try clear hb);(try clear hb2);(try clear hk);(try clear hi);(try clear ho0)))
   go_ret2
   exact ⟨_,qz4,by (with_reducible repeat (first|apply Kd.R_alloc|apply Kd.R_drewN|apply Kd.R_drew));exact HO272.out,qz2⟩
  ·replace c6:=Bool.eq_false_iff.mpr c6
   subst c6
   have H1:(some (([]:List (S46)),false))=some (r1,r2):=qz13
   clear H
   have H:=H1
   clear H1
   simp only [Option.some.injEq,Prod.mk.injEq] at H
   obtain ⟨rfl,rfl⟩:=H
   go_enter Tryd.func36,Tryd.ntmps36
   go_wp2_with (first|(go_at_call 26;(with_reducible refine (impl_SubOk.calls k _ _ l0 true _ ?side1 ?side2 A3.out).mono ?_);(case side1=>exact qz21);(case side2=>exact HC0.out);rintro e w11 ⟨rfl,hb⟩;have n0_:=Aside0.mk (below_step qz1 hb);clear HB;have HB:=n0_;clear n0_;(try clear hb);(try clear hb2);(try clear hk);(try clear hi))|(go_at_call 42;(with_reducible refine (impl_TrmOk.calls _ _ l1 false _ ?side1 ?side2 A5.out).mono ?_);(case side1=>exact qz19);(case side2=>exact HC1.out);rintro e w12 ⟨rfl,hb⟩;have n0_:=Aside0.mk (below_step qz1 hb);clear HB;have HB:=n0_;clear n0_;(try clear hb);(try clear hb2);(try clear hk);(try clear hi)))
   go_ret2
   exact ⟨_,qz4,qz45,qz2⟩
 ·replace c4:=Bool.eq_false_iff.mpr c4
  subst c4
  have H1:(some (([]:List (S46)),false))=some (r1,r2):=qz13
  clear H
  have H:=H1
  clear H1
  simp only [Option.some.injEq,Prod.mk.injEq] at H
  obtain ⟨rfl,rfl⟩:=H
  go_enter Tryd.func36,Tryd.ntmps36
  go_wp2_with (first|(go_at_call 26;(with_reducible refine (impl_SubOk.calls k _ _ l0 false _ ?side1 ?side2 A3.out).mono ?_);(case side1=>exact qz21);(case side2=>exact HC0.out);rintro e w13 ⟨rfl,hb⟩;have n0_:=Aside0.mk (below_step qz1 hb);clear HB;have HB:=n0_;clear n0_;(try clear hb);(try clear hb2);(try clear hk);(try clear hi)))
  go_ret2
  exact ⟨_,qz4,qz45,qz2⟩

end Go.Proofs.YtlaicnoikeieeaaDoor.P
