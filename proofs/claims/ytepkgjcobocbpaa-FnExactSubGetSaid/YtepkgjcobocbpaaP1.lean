/- Contracts of functions of the program: each as a Lean function, and that its call does what that says; printed by cprint.py (this session) over print.py of the kit. Conditions: the hypotheses of each theorem. -/
import Derived.Test.YtepkgjcobocbpaaVZ
import Derived.Test.YtepkgjcobocbpaaP0
namespace Go.Proofs.Ytepkgjcobocbpaa.P
open Go.RowKit Go.Proofs.YtepkgjcobocbpaaW.PrintWords Go.Proofs.YtepkgjcobocbpaaW.PrintLast Go.Proofs.YtepkgjcobocbpaaW.PrintMore
attribute [local go_sem] max2_int min2_int max_two min_two max_three min_three max_four min_four   -- for this text's walks alone
set_option linter.unusedVariables false
set_option linter.unusedSimpArgs false

/-! ### spec_SubGet: function 5 -/
def spec_SubGet.l0:Nat→List (S38)→Int→Int→Option ((List (S44)))
 | 0,_,_,_=>none
 | k+1,x0,x1,x5=>if x5<(x0.length:Int) then (if 0≤x5 then (if ((rd_T38 x0 x5).f0)=x1 then ((some (([]:List (S44)):List (S44))).bind fun y112=>(if y112.length+((rd_T38 x0 x5).f1).length<4398046511104 then (some (y112++((rd_T38 x0 x5).f1))) else (none))) else (spec_SubGet.l0 k x0 x1 (wrap64 (x5+1)))) else (none)) else (some (([]:List (S44))))
def spec_SubGet.f (k:Nat) (l0:List (S38)) (a1:Int):Option ((List (S44))):=spec_SubGet.l0 k l0 a1 0
set_option maxHeartbeats 8000000 in
set_option maxRecDepth 100000 in
theorem spec_SubGet.calls (k:Nat) (A0:Option Addr) (c0:Nat) (l0:List (S38)) (a1:Int) (r:List (S44)) (w:World) (hr0:Kd.C k38 w A0 l0.length l0) (hc0:l0.length≤c0) (h:spec_SubGet.f k l0 a1=some r) :
  Calls Try.prog 5 #[.slice A0 l0.length c0,.int .i64 a1] w fun e w'=>∃ v0_:Value,e = .returned (v0_)∧Kd.R k44 44 w' w.heap.size (fun _=>True) v0_ r∧Below w.heap.size w w':=by
 have HR0:=Aside0.mk hr0
 have HC0:=Aside0.mk hc0
 clear hr0 hc0
 have HB:=Aside0.mk (Below.refl w.heap.size w)
 have H:(spec_SubGet.l0 k l0 a1 0)=some r:=h
 clear h
 have H':=Aside0.mk H
 clear H
 go_enter Try.func5,Try.ntmps5
 go_wp2
 go_loopg [5] k (fun kq v5 w'=>∃ (x5_1:Int),v5 = .int .i64 x5_1∧Aside0 (spec_SubGet.l0 kq l0 a1 x5_1=some r)∧Aside0 (kq≤k)∧Aside0 (Below w.heap.size w w'))
 case atStart=>exact ⟨(0),qz8,H',⟨Nat.le_refl _⟩,⟨qz2⟩⟩
 case round=>
  clear H'
  try clear p2
  obtain ⟨x5_1,rfl,HA,HK1,HB⟩:=hrel
  cases gk with
  | zero=>exact absurd HA.out (by simp [spec_SubGet.l0])
  | succ k1=>
   have H:=HA.out
   clear HA
   simp only [spec_SubGet.l0] at H
   by_cases c3:x5_1<(l0.length:Int)
   ·rw [if_pos c3] at H
    have c3b0:decide (x5_1<(l0.length:Int))=true:=decide_eq_true c3
    clear c3
    by_cases c4:0≤x5_1
    ·rw [if_pos c4] at H
     have c4b0:decide (0≤x5_1)=true:=decide_eq_true c4
     clear c4
     by_cases c5:((rd_T38 l0 x5_1).f0)=a1
     ·rw [if_pos c5] at H
      have c5b0:(((rd_T38 l0 x5_1).f0) == a1)=true:=beq_iff_eq.mpr c5
      have c5b1:(((rd_T38 l0 x5_1).f0) != a1)=false:=bne_eq_false_iff_eq.mpr c5
      clear c5
      obtain ⟨y112,hy112⟩:∃ y_:List (S44),y_=(([]:List (S44))):=⟨_,rfl⟩
      replace H:(if y112.length+((rd_T38 l0 x5_1).f1).length<4398046511104 then (some (y112++((rd_T38 l0 x5_1).f1))) else (none))=some r:=by first|(rw [hy112];exact H)|exact H
      have Ny112:=Aside0.mk hy112
      clear hy112
      by_cases c6:y112.length+((rd_T38 l0 x5_1).f1).length<4398046511104
      ·rw [if_pos c6] at H
       have LMc6:=Aside0.mk c6
       clear c6
       obtain ⟨y116,hy116⟩:∃ y_:List (S44),y_=(y112++((rd_T38 l0 x5_1).f1)):=⟨_,rfl⟩
       replace H:(some y116)=some r:=by first|(rw [hy116];exact H)|exact H
       have Ny116:=Aside0.mk hy116
       clear hy116
       obtain rfl:=Option.some.inj H
       have p111:0≤(x5_1:Int):=of_decide_eq_true qz3
       have q111:x5_1<(l0.length:Int):=of_decide_eq_true qz3
       obtain ⟨ad111,A111_1,c111_1,e111,hx111_0,hx111_1,hl111_1,hi111_1⟩:=at_T38 HR0.out x5_1 p111 q111
       cases e111
       replace hx111_0:=(HB.out.cell (World.block_lt_of_cell? w _ hx111_0)).trans hx111_0
       replace hx111_1:=(HB.out.cell (World.block_lt_of_cell? w _ hx111_1)).trans hx111_1
       have HR111_1:=Aside0.mk hi111_1
       have HC111_1:=Aside0.mk hl111_1
       clear hi111_1 hl111_1
       replace p111:=eq_true p111
       replace q111:=eq_true q111
       go_wp2_with (first|((with_reducible refine gate_dst (N:=19) rfl ?_);refine Kd.R_lit k44 _ 44 ?hg (N:=19) ?hd (xs:=([]:List (S44))) (inner:=[]) (ok:=fun _=>True) (okp:=fun _=>True) ?hr ?hp (fun _ hk=>hk) trivial (Below.refl _ _) (Nat.le_refl _) (by simp) ?_;(case hd=>rfl);(case hg=>rfl);(case hr=>first|(go_simp;done)|(go_simp;rfl));(case hp=>exact (Reps.none _ _));intro v113 w7 ho8 hb hg_ hnew_;clear hg_ hnew_;(first|rw [← Ny112.out] at ho8|(simp only [Int.reduceToNat] at ho8;rw [← Ny112.out] at ho8));have n0_:=Aside0.mk (Kd.R_lower ho8 (below_size qz1));have n1_:=Aside0.mk (below_step qz1 hb);clear HB;have HO114:=n0_;have HB:=n1_;clear n0_ n1_ hb ho8;have p115:0≤(x5_1:Int):=of_decide_eq_true qz3;have q115:x5_1<(l0.length:Int):=of_decide_eq_true qz3;obtain ⟨ad115,A115_1,c115_1,e115,hx115_0,hx115_1,hl115_1,hi115_1⟩:=at_T38 HR0.out x5_1 p115 q115;obtain rfl:ad111=ad115:=(by injection e115);replace hx115_0:=(HB.out.cell (World.block_lt_of_cell? w _ hx115_0)).trans hx115_0;replace hx115_1:=(HB.out.cell (World.block_lt_of_cell? w _ hx115_1)).trans hx115_1;have HR115_1:=Aside0.mk hi115_1;have HC115_1:=Aside0.mk hl115_1;clear hi115_1 hl115_1;replace p115:=eq_true p115;replace q115:=eq_true q115)|((with_reducible refine gate_builtin (b:=.append) (xs:=#[.tmp 19,.tmp 24]) rfl ?_);at_builtin;refine Kd.R_append_rows k44 (w0:=w) w.heap.size rfl (.tmp 19) (.tmp 24) 24 44 (.agg #[(.int .i64 0),(.int .i64 0),(.string ⟨#[]⟩)]) 32 rfl Try.underlying24 info44 rfl (by decide) (by omega) v113 y112 ((rd_T38 l0 x5_1).f1) _ _ _ (fun _=>True) (fun _=>False) rfl rfl ?aO ?aR (fun _ _ h=>h) (fun _ h=>h.elim) ?aF ?aB ?aS ?aL ?_;(case aR=>repeat (first|exact (Kd.C_below HR115_1.out HB.out)|(with_reducible refine Kd.C_alloc ?_ _)|(with_reducible refine Kd.C_drewN ?_ _)|(with_reducible refine Kd.C_drew ?_)));(case aB=>exact qz1);(case aF=>exact (fun _ _=>trivial));(case aO=>(with_reducible repeat (first|apply Kd.R_alloc|apply Kd.R_drewN|apply Kd.R_drew));exact HO114.out);(case aS=>exact (below_size qz1));(case aL=>have:=LMc6.out;omega);intro v117 w9 ho hb hg hat;rw [← Ny116.out] at ho;have n0_:=Aside0.mk (hb);have n1_:=Aside0.mk (ho);clear HB HO114;have HB:=n0_;have HO118:=n1_;clear n0_ n1_ ho hb hg hat))
       go_ret
       exact ⟨_,qz4,by (with_reducible repeat (first|apply Kd.R_alloc|apply Kd.R_drewN|apply Kd.R_drew));exact HO118.out,qz2⟩
      ·rw [if_neg c6] at H
       exact absurd H (by simp)
     ·rw [if_neg c5] at H
      have c5b0:(((rd_T38 l0 x5_1).f0) == a1)=false:=beq_eq_false_iff_ne.mpr c5
      have c5b1:(((rd_T38 l0 x5_1).f0) != a1)=true:=bne_iff_ne.mpr c5
      have H':=Aside0.mk H
      clear H
      have p111:0≤(x5_1:Int):=of_decide_eq_true qz3
      have q111:x5_1<(l0.length:Int):=of_decide_eq_true qz3
      obtain ⟨ad111,A111_1,c111_1,e111,hx111_0,hx111_1,hl111_1,hi111_1⟩:=at_T38 HR0.out x5_1 p111 q111
      cases e111
      replace hx111_0:=(HB.out.cell (World.block_lt_of_cell? w _ hx111_0)).trans hx111_0
      replace hx111_1:=(HB.out.cell (World.block_lt_of_cell? w _ hx111_1)).trans hx111_1
      have HR111_1:=Aside0.mk hi111_1
      have HC111_1:=Aside0.mk hl111_1
      clear hi111_1 hl111_1
      replace p111:=eq_true p111
      replace q111:=eq_true q111
      go_wp2
      go_roundg k1
      case measure=>have:=HK1.out;omega
      case rel=>exact ⟨(wrap64 (x5_1+1)),qz8,H',⟨by have:=HK1.out;omega⟩,⟨qz2⟩⟩
    ·rw [if_neg c4] at H
     exact absurd H (by simp)
   ·rw [if_neg c3] at H
    have c3b0:decide (x5_1<(l0.length:Int))=false:=decide_eq_false c3
    clear c3
    obtain ⟨y108,hy108⟩:∃ y_:List (S44),y_=(([]:List (S44))):=⟨_,rfl⟩
    replace H:(some y108)=some r:=by first|(rw [hy108];exact H)|exact H
    have Ny108:=Aside0.mk hy108
    clear hy108
    obtain rfl:=Option.some.inj H
    go_wp2_with (first|((with_reducible refine gate_dst (N:=26) rfl ?_);refine Kd.R_lit k44 _ 44 ?hg (N:=26) ?hd (xs:=([]:List (S44))) (inner:=[]) (ok:=fun _=>True) (okp:=fun _=>True) ?hr ?hp (fun _ hk=>hk) trivial (Below.refl _ _) (Nat.le_refl _) (by simp) ?_;(case hd=>rfl);(case hg=>rfl);(case hr=>first|(go_simp;done)|(go_simp;rfl));(case hp=>exact (Reps.none _ _));intro v109 w10 ho11 hb hg_ hnew_;clear hg_ hnew_;(first|rw [← Ny108.out] at ho11|(simp only [Int.reduceToNat] at ho11;rw [← Ny108.out] at ho11));have n0_:=Aside0.mk (Kd.R_lower ho11 (below_size qz1));have n1_:=Aside0.mk (below_step qz1 hb);clear HB;have HO110:=n0_;have HB:=n1_;clear n0_ n1_ hb ho11))
    go_ret
    exact ⟨_,qz4,by (with_reducible repeat (first|apply Kd.R_alloc|apply Kd.R_drewN|apply Kd.R_drew));exact HO110.out,qz2⟩

/-! ### slices_IndexFunc_SubBind: function 15 -/
/-- which binding is the first at which p says yes, p going through states; -1, if none is -/
def firstS {σ:Type} (p:σ→Cat.Bind→Option (Bool × σ)):σ→List Cat.Bind→Nat→Option (Int × σ)
 | s,[],_=>some (-1,s)
 | s,x :: l,i=>(p s x).bind fun r=>if r.1=true then some ((i:Int),r.2) else firstS p r.2 l (i+1)
theorem grown_both {a b c:World} {g:Option Nat} (h:a.grownBy b g) (k:b.grownBy c g):a.grownBy c g:=
 ⟨k.os.trans h.os,k.tape.trans h.tape,k.output.trans h.output,Nat.le_trans h.size k.size,fun i hi hg=>(k.block i (Nat.lt_of_lt_of_le hi h.size) hg).trans (h.block i hi hg)⟩
theorem grown_nothing (w:World) (g:Option Nat):w.grownBy w g:=⟨rfl,rfl,rfl,Nat.le_refl _,fun _ _ _=>rfl⟩
theorem grown_below {w w':World} (h:Below w.heap.size w w') (g:Option Nat):w.grownBy w' g:=⟨h.os,h.tape,h.output,h.size,fun k hk _=>h.block k hk⟩
theorem below_grown {w w':World} (h:w.grownBy w' none):Below w.heap.size w w':=⟨h.os,h.tape,h.output,h.size,fun k hk=>h.block k hk (by simp)⟩
/-- what is asked of a predicate on bindings that goes through states: told in memory by J; it may write the block row -/
def PredB {σ:Type} (g:Nat) (lb:Array Value) (row:Option Nat) (p:σ→Cat.Bind→Option (Bool × σ)) (J:σ→World→Prop) (w:World):Prop:=
 ∀ (s s':σ) (x:Cat.Bind) (b:Bool) (W:World) (A:Option Addr) (c:Nat),p s x=some (b,s')→w.grownBy W row→J s W→x.f1.length≤c→Kd.C k44 W A x.f1.length x.f1→
  Calls Try.prog g (#[.agg #[.int .i64 x.f0,.slice A x.f1.length c]]++lb) W fun e w'=>e = .returned (.bool b)∧J s' w'∧W.grownBy w' row
set_option maxHeartbeats 4000000 in
set_option maxRecDepth 100000 in
theorem indexFunc_binds {σ:Type} (g:Nat) (lb:Array Value) (row:Option Nat) (p:σ→Cat.Bind→Option (Bool × σ)) (J:σ→World→Prop) (eg:∀ args w,(callFunc g args).run Try.prog w = .ok (.enter g args) w)
  (A0:Option Addr) (c0:Nat) (l0:List (S38)) (w:World) (hr0:∀ W,w.grownBy W row→Kd.C k38 W A0 l0.length l0) (hp:PredB g lb row p J w) (s0 s1:σ) (r:Int) (h:firstS p s0 l0 0=some (r,s1)) (hJ:J s0 w) :
  Calls Try.prog 15 #[.slice A0 l0.length c0,.func (.func g) #[] lb] w fun e w'=>e = .returned (.int .i64 r)∧J s1 w'∧w.grownBy w' row:=by
 have HR:=Aside0.mk hr0
 have HP:=Aside0.mk hp
 have HH:=Aside0.mk h
 have HJ:=Aside0.mk hJ
 have hm:l0.length≤9223372036854775807:=(hr0 w (grown_nothing w row)).2.1
 clear hr0 hp h hJ
 go_enter Try.func15,Try.ntmps15
 go_wp2
 go_loopg [5,8] l0.length (fun gg _ s8 wr=>∃ (kk:Nat) (s:σ),kk≤l0.length∧l0.length - kk≤gg∧s8 = .int .i64 kk∧Aside0 (w.grownBy wr row)∧Aside0 (J s wr)∧Aside0 (firstS p s (l0.drop kk) kk=some (r,s1)))
 case atStart=>exact ⟨0,s0,Nat.zero_le _,by omega,rfl,⟨grown_nothing _ _⟩,HJ,⟨by rw [List.drop_zero];exact HH.out⟩⟩
 case round=>
  obtain ⟨kk,s,hkk,hg,rfl,BW,JW,A⟩:=hrel
  by_cases hlt:kk<l0.length
  ·have hltz:(kk:Int)<(l0.length:Int):=by omega
   have hl:=A.out
   rw [List.drop_eq_getElem_cons hlt,firstS] at hl
   cases ex:p s l0[kk] with
   | none=>rw [ex] at hl;cases hl
   | some q=>
   obtain ⟨bx,sx⟩:=q
   rw [ex] at hl
   simp only [Option.bind_some] at hl
   obtain ⟨ad,A1,c1,e1,hx0,hx1,hl1,hC1⟩:=at_T38 (HR.out wr BW.out) (kk:Int) (by omega) hltz
   cases e1
   rw [Int.toNat_natCast] at hx0 hx1
   have ey:rd_T38 l0 (kk:Int)=l0[kk]:=by simp [rd_T38,List.getD,hlt]
   rw [ey] at hx0 hx1 hl1 hC1
   have hcall:=HP.out s sx l0[kk] bx wr A1 c1 ex BW.out JW.out hl1 hC1
   generalize l0[kk]=y at hx0 hx1 hcall ex hl1 hC1
   have HLL:=Aside0.mk hl
   clear hl ex ey hC1 hl1
   cases bx with
   | true=>
    go_wp2_with (go_at_fn g;refine hcall.mono ?_;rintro e w' ⟨rfl,hj',hb'⟩;have HJ':=Aside0.mk hj';have HB':=Aside0.mk hb';clear hj' hb')
    go_ret
    have h1:=HLL.out
    rw [if_pos (by simp)] at h1
    obtain ⟨rfl,rfl⟩:=Prod.mk.inj (Option.some.inj h1)
    exact ⟨rfl,HJ'.out,grown_both BW.out HB'.out⟩
   | false=>
    go_wp2_with (go_at_fn g;refine hcall.mono ?_;rintro e w' ⟨rfl,hj',hb'⟩;have HJ':=Aside0.mk hj';have HB':=Aside0.mk hb';clear hj' hb')
    go_roundg (l0.length - (kk+1))
    case measure=>omega
    case rel=>
     refine ⟨kk+1,sx,by omega,by omega,by go_num,⟨grown_both BW.out HB'.out⟩,HJ',⟨?_⟩⟩
     have h1:=HLL.out
     rwa [if_neg (by simp)] at h1
  ·have hltz:¬ (kk:Int)<(l0.length:Int):=by omega
   have hl:=A.out
   rw [List.drop_eq_nil_of_le (by omega),firstS] at hl
   obtain ⟨rfl,rfl⟩:=Prod.mk.inj (Option.some.inj hl)
   clear hl
   go_wp2
   go_ret
   exact ⟨rfl,JW.out,BW.out⟩

/-! ### slices_Clone_TrmCell: function 17 -/
/-- slices.Clone of places: the same places, in new memory. -/
def slices_Clone_TrmCell.f (l0:List (S44)):Option ((List (S44))):=if l0.length<4398046511104 then some l0 else none
set_option maxHeartbeats 4000000 in
set_option maxRecDepth 100000 in
theorem slices_Clone_TrmCell.calls (A0:Option Addr) (c0:Nat) (l0:List (S44)) (r:List (S44)) (w:World) (hr0:Kd.C k44 w A0 l0.length l0) (hc0:l0.length≤c0) (h:slices_Clone_TrmCell.f l0=some r) :
  Calls Try.prog 17 #[.slice A0 l0.length c0] w fun e w'=>∃ v0_:Value,e = .returned (v0_)∧Kd.R k44 44 w' w.heap.size (fun _=>True) v0_ r∧Below w.heap.size w w':=by
 unfold slices_Clone_TrmCell.f at h
 by_cases hl:l0.length<4398046511104
 case neg=>rw [if_neg hl] at h;cases h
 rw [if_pos hl] at h
 obtain rfl:=Option.some.inj h
 clear h
 have q:=fun (w:World) (a:Option Addr) (n c n' c':Nat)=>Lib.run_eql_slice_nil (P:=Try.prog) w 24 44 a n c n' c' Try.underlying24
 cases A0 with
 | none=>
  have h0:l0=[]:=by
   rcases Nat.eq_zero_or_pos l0.length with h|h
   ·exact List.length_eq_zero_iff.1 h
   ·obtain ⟨ad,he,_⟩:=hr0.2.2 h
    cases he
  subst h0
  go_enter Try.func17,Try.ntmps17
  go_wp2
  go_ret
  exact ⟨_,rfl,Kd.R_nil _ _ _ _ _,Below.refl _ _⟩
 | some ad=>
  have HR:=Aside0.mk hr0
  have HL:=Aside0.mk hl
  clear hr0 hl
  go_enter Try.func17,Try.ntmps17
  go_wp2_with (first|((with_reducible refine gate_dst (N:=5) rfl ?_);refine Kd.R_lit k44 _ 44 ?hg (N:=5) ?hd (xs:=([]:List (S44))) (inner:=[]) (ok:=fun _=>True) (okp:=fun _=>True) ?hr ?hp (fun _ hk=>hk) trivial (Below.refl _ _) (Nat.le_refl _) (by simp) ?_;(case hd=>rfl);(case hg=>rfl);(case hr=>first|(go_simp;done)|(go_simp;rfl));(case hp=>exact (Reps.none _ _));intro v1 w1 ho hb hg_ hnew_;clear hg_ hnew_;have HO:=Aside0.mk ho;have HB:=Aside0.mk hb;clear ho hb)|((with_reducible refine gate_builtin (b:=.append) (xs:=#[.tmp 5,.tmp 6]) rfl ?_);at_builtin;refine Kd.R_append_rows k44 (w0:=w) w.heap.size rfl (.tmp 5) (.tmp 6) 24 44 (.agg #[(.int .i64 0),(.int .i64 0),(.string ⟨#[]⟩)]) 32 rfl Try.underlying24 info44 rfl (by decide) (by omega) v1 [] l0 _ _ _ (fun _=>True) (fun _=>False) rfl rfl ?aO ?aR (fun _ _ h=>h) (fun _ h=>h.elim) ?aF ?aB ?aS ?aL ?_;(case aR=>exact Kd.C_below HR.out HB.out);(case aB=>exact HB.out);(case aF=>exact fun _ _=>trivial);(case aO=>exact HO.out);(case aS=>exact below_size HB.out);(case aL=>have:=HL.out;simp only [List.length_nil];omega);intro v2 w2 ho hb hg hat;clear HB HO;have HB:=Aside0.mk hb;have HO:=Aside0.mk ho;clear ho hb hg hat))
  go_ret
  exact ⟨_,rfl,HO.out,HB.out⟩

/-! ### impl_SubGet: function 7 -/
/-- what the first binding of a variable says; none, if there is none -/
def impl_SubGet.f (l0:List (S38)) (a1:Int):Option (List (S44)):=match Cat.get l0 a1 with
 | none=>some []
 | some t=>slices_Clone_TrmCell.f t
def varP (v:Int):Unit→Cat.Bind→Option (Bool × Unit):=fun _ x=>some (x.f0 == v,())
theorem firstS_get (v:Int):∀ (l:List Cat.Bind) (i:Nat),∃ r,firstS (varP v) () l i=some (r,())∧((Cat.get l v=none∧r = -1)∨∃ j,∃ h:j<l.length,r=((i+j:Nat):Int)∧Cat.get l v=some (l[j]).f1)
 | [],i=>⟨-1,rfl,.inl ⟨rfl,rfl⟩⟩
 | x :: l,i=>by
  by_cases hx:x.f0=v
  ·refine ⟨(i:Int),?_,.inr ⟨0,by simp,by simp,?_⟩⟩
   ·rw [firstS,varP];simp [hx]
   ·unfold Cat.get;rw [List.find?_cons];simp [hx]
  ·obtain ⟨r,h1,h2⟩:=firstS_get v l (i+1)
   have hb:(x.f0 == v)=false:=by simpa using hx
   refine ⟨r,?_,?_⟩
   ·rw [firstS,varP];simp only [Option.bind_some];rw [if_neg (by rw [hb];simp)];exact h1
   ·have e:Cat.get (x :: l) v=Cat.get l v:=by unfold Cat.get;rw [List.find?_cons,hb]
    rw [e]
    rcases h2 with h|⟨j,hj,h3,h4⟩
    ·exact .inl h
    ·exact .inr ⟨j+1,by simpa using hj,by rw [h3];congr 1;omega,h4⟩
set_option maxHeartbeats 4000000 in
theorem subget_pred (B:Nat) (v:Int) (x:Cat.Bind) (A:Option Addr) (c:Nat) (W:World) (hc:W.cell? ⟨B,0,none⟩=some (.int .i64 v)) (hB:B<W.heap.size) :
  Calls Try.prog 16 #[.agg #[.int .i64 x.f0,.slice A x.f1.length c],.pointer (some ⟨B,0,none⟩)] W fun e w'=>e = .returned (.bool (x.f0 == v))∧Below W.heap.size W w':=by
 go_enter Try.func16,Try.ntmps16
 go_wp2
 go_ret
 exact ⟨rfl,below_alloc (Below.refl _ _) _⟩
set_option maxHeartbeats 8000000 in
set_option maxRecDepth 100000 in
theorem impl_SubGet.calls (A0:Option Addr) (c0:Nat) (l0:List (S38)) (a1:Int) (r:List (S44)) (w:World) (hr0:Kd.C k38 w A0 l0.length l0) (hc0:l0.length≤c0) (h:impl_SubGet.f l0 a1=some r) :
  Calls Try.prog 7 #[.slice A0 l0.length c0,.int .i64 a1] w fun e w'=>∃ v0_:Value,e = .returned (v0_)∧Kd.R k44 44 w' w.heap.size (fun _=>True) v0_ r∧Below w.heap.size w w':=by
 obtain ⟨ri,hri,hcase⟩:=firstS_get a1 l0 0
 have HR:=Aside0.mk hr0
 have HH:=Aside0.mk h
 have HF:=Aside0.mk hri
 have HJ0:=Aside0.mk (show (w.alloc (.cells #[.int .i64 a1] 3)).cell? ⟨w.heap.size,0,none⟩=some (.int .i64 a1) by simp [go_sem])
 have HB0:=Aside0.mk ((Below.refl w.heap.size w).alloc (Nat.le_refl _) (.cells #[.int .i64 a1] 3))
 have HP:=Aside0.mk (show PredB 16 #[.pointer (some ⟨w.heap.size,0,none⟩)] none (varP a1) (fun _ W=>W.cell? ⟨w.heap.size,0,none⟩=some (.int .i64 a1)) (w.alloc (.cells #[.int .i64 a1] 3)) from by
  intro s s' x b W A c hp hg hJ hl hC
  obtain ⟨rfl,rfl⟩:=Prod.mk.inj (Option.some.inj hp)
  have hlt:=World.block_lt_of_cell? W _ hJ
  refine (subget_pred w.heap.size a1 x A c W hJ hlt).mono ?_
  rintro e w' ⟨rfl,hb⟩
  exact ⟨rfl,(hb.cell hlt).trans hJ,grown_below hb none⟩)
 have HIX:=Aside0.mk (indexFunc_binds 16 #[.pointer (some ⟨w.heap.size,0,none⟩)] none (varP a1) _ (enters_ Try.func16 (by kernel_rfl) (by kernel_rfl)) A0 c0 l0 _ (fun W hg=>Kd.C_below HR.out (HB0.out.trans ((below_grown hg).mono HB0.out.size))) HP.out () () ri HF.out HJ0.out)
 clear hr0 h hri HP HJ0
 rcases hcase with ⟨hn,rfl⟩|⟨j,hj,rfl,hs⟩
 ·have HN:=Aside0.mk hn
  clear hn
  go_enter Try.func7,Try.ntmps7
  go_wp2_with (go_at_call 15;(with_reducible refine HIX.out.mono ?_);rintro e w1 ⟨rfl,_,hg1⟩;have HB1:=Aside0.mk (HB0.out.trans ((below_grown hg1).mono HB0.out.size));clear hg1)
  go_ret
  have h1:=HH.out
  unfold impl_SubGet.f at h1
  rw [HN.out] at h1
  obtain rfl:=Option.some.inj h1
  exact ⟨_,rfl,Kd.R_nil _ _ _ _ _,HB1.out⟩
 ·have HN:=Aside0.mk hs
  have HCL:Aside0 (slices_Clone_TrmCell.f (l0[j]).f1=some r):=⟨by
   have h1:=HH.out
   unfold impl_SubGet.f at h1
   rw [HN.out] at h1
   exact h1⟩
  obtain ⟨ad,A1,c1,e1,hx0,hx1,hl1,hC1⟩:=at_T38 HR.out (j:Int) (by omega) (by omega)
  cases e1
  rw [Int.toNat_natCast] at hx0 hx1
  have ey:rd_T38 l0 (j:Int)=l0[j]:=by simp [rd_T38,List.getD,hj]
  rw [ey] at hx0 hx1 hl1 hC1
  have hm:l0.length≤9223372036854775807:=HR.out.2.1
  generalize l0[j]=y at hx0 hx1 hl1 hC1 HCL HN
  have HX1:=Aside0.mk hx1
  have HL1:=Aside0.mk hl1
  have HC1:=Aside0.mk hC1
  have hjz:(j:Int)<(l0.length:Int):=by omega
  have hj0:¬ (j:Int)<0:=by omega
  have had:=World.block_lt_of_cell? w _ hx0
  rw [add_block] at had
  rw [Nat.zero_add] at HIX
  clear hs ey hl1 hC1 hx0 hx1 HH
  go_enter Try.func7,Try.ntmps7
  go_wp2_with (first
   | (go_at_call 15;(with_reducible refine HIX.out.mono ?_);rintro e w1 ⟨rfl,_,hg1⟩;have HB1:=Aside0.mk (HB0.out.trans ((below_grown hg1).mono HB0.out.size));have hx3:=(HB1.out.cell (World.block_lt_of_cell? w _ HX1.out)).trans HX1.out;clear hg1)
   | (go_at_call 17;(with_reducible refine (slices_Clone_TrmCell.calls A1 c1 y.f1 r _ (Kd.C_below HC1.out HB1.out) HL1.out HCL.out).mono ?_);rintro e w2 ⟨v2,rfl,ho2,hb2⟩;have HO2:=Aside0.mk ho2;have HB2:=Aside0.mk (HB1.out.trans (hb2.mono HB1.out.size));have hz2:=HB1.out.size;clear ho2 hb2))
  go_ret
  exact ⟨_,rfl,Kd.R_lower HO2.out hz2,HB2.out⟩

end Go.Proofs.Ytepkgjcobocbpaa.P
