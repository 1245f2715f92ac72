/- A region of open order by one relation over what is listed, up to a number from which on all wait for all that is smaller. -/
import Derived.Test.YtlhniagacegbeaaDoorV0
import Derived.Test.YtlhniagacegbeaaDoorMSRows
namespace Go.Proofs.YtlhniagacegbeaaDoorW.PrintLast
open Go.Proofs.YtlhniagacegbeaaDoorW.PrintWords
set_option linter.unusedVariables false
set_option linter.unusedSimpArgs false
section
variable {P : Program} {ops : Array Oper} {Q : Exit → Act → World → Prop} {S : World → Prop} {md : Region.Mode} {T : Bool × List (List Nat × List Nat)} {B : List Nat} {O ds : List Nat} {b : Nat → Bool}
def tailOk (B O:List Nat) (t:Nat):Bool:=O.all fun i=>decide (i<t) || O.all fun o=>!decide (o<t) || (B.getD i 0).testBit o
theorem inv_cut (t m0:Nat) (hT:rtab md ops=T) (hw:waitsOk T.2 B=true) (hk:baseOk T.2 O=true) (ht:tailOk B O t=true) (I:(Nat→Bool)→Act→World→Prop) (hS:∀ b a w,I b a w→S w) (hs:∀ i ∈ O,i<t→StepAt P ops Q B O I i)
  (hend:∀ b a w,(∀ j,O.contains j=true→b j=decide (j<t))→I b a w→wpAnyLast P md ops Q S ds m0 (lof T.2.length O fun j=>decide (j<t)).toArray a w) :
  ∀ (m:Nat) (b:Nat→Bool) (a:Act) (w:World),((O.filter fun j=>decide (j<t)).filter fun j=>!b j).length=m→(∀ j,t≤j→b j=false)→Closed T.2 O b→I b a w→wpAnyLast P md ops Q S ds (m+m0) (lof T.2.length O b).toArray a w:=by
 subst hT
 intro m
 induction m with
 | zero=>
  intro b a w hm hb hc hI
  have hall:∀ j,O.contains j=true→b j=decide (j<t):=by
   intro j hj
   by_cases hjt:j<t
   ·rw [decide_eq_true hjt]
    cases hbj:b j with
    | true=>rfl
    | false=>
     have:j ∈ (O.filter fun j=>decide (j<t)).filter fun j=>!b j:=List.mem_filter.2 ⟨List.mem_filter.2 ⟨List.contains_iff_mem.1 hj,decide_eq_true hjt⟩,by simp [hbj]⟩
     rw [List.eq_nil_of_length_eq_zero hm] at this
     cases this
   ·rw [decide_eq_false hjt];exact hb j (by omega)
  have e:lof (rtab md ops).2.length O b=lof (rtab md ops).2.length O fun j=>decide (j<t):=by
   unfold lof
   refine List.map_congr_left (fun j _=>?_)
   by_cases hj:O.contains j=true
   ·rw [if_pos hj,if_pos hj,hall j hj]
   ·rw [if_neg hj,if_neg hj]
  rw [e,Nat.zero_add]
  exact hend b a w hall hI
 | succ m ih=>
  intro b a w hm hbt hc hI
  rw [show m+1+m0=m+m0+1 by omega]
  refine ⟨fun hr=>?_,fun i hi=>?_⟩
  ·exfalso
   have hex:∃ i,O.contains i=true∧b i=false:=by
    cases hf:(O.filter fun j=>decide (j<t)).filter (fun j=>!b j) with
    | nil=>rw [hf] at hm;simp at hm
    | cons x r=>
     have hx:x ∈ (O.filter fun j=>decide (j<t)).filter (fun j=>!b j):=by rw [hf];exact List.mem_cons_self
     rw [List.mem_filter,List.mem_filter] at hx
     exact ⟨x,List.contains_iff_mem.2 hx.1.1,by simpa using hx.2⟩
   have hmin:∀ k,(∃ i,i≤k∧O.contains i=true∧b i=false)→∃ i,O.contains i=true∧b i=false∧∀ j,j<i→O.contains j=true→b j=true:=by
    intro k
    induction k with
    | zero=>
     rintro ⟨i,hi,h1,h2⟩
     exact ⟨i,h1,h2,fun j hj=>by omega⟩
    | succ k ihk=>
     rintro ⟨i,hi,h1,h2⟩
     by_cases hlow:∃ j,j≤k∧O.contains j=true∧b j=false
     ·exact ihk hlow
     ·refine ⟨i,h1,h2,fun j hj hO=>?_⟩
      cases hb:b j with
      | true=>rfl
      | false=>exact absurd ⟨j,by omega,hO,hb⟩ hlow
   obtain ⟨i0,h1,h2⟩:=hex
   obtain ⟨i,hO,hb,hlow⟩:=hmin i0 ⟨i0,Nat.le_refl _,h1,h2⟩
   have hl:=baseOk_lt hk (List.contains_iff_mem.1 hO)
   have hin:i ∈ Region.ready md ops (lof (rtab md ops).2.length O b).toArray:=by
    rw [ready_eq]
    unfold readyT
    rw [List.mem_filter,List.mem_range]
    refine ⟨hl,?_⟩
    unfold readyAt
    rw [lof_get hl,hO,hb]
    have hr2:(rtab md ops).2[i]?=some (rtab md ops).2[i]:=List.getElem?_eq_getElem hl
    rw [hr2]
    simp only [if_true,Bool.not_false,Bool.true_and,List.all_eq_true]
    intro n hn
    have hni:=(baseOk_row hk hr2).2 n hn
    rw [lof_get (by omega)]
    cases hOn:O.contains n with
    | true=>simpa using hlow n hni hOn
    | false=>simp
   rw [hr] at hin
   cases hin
  ·have hready:=hi
   rw [ready_eq] at hready
   unfold readyT at hready
   rw [List.mem_filter,List.mem_range] at hready
   obtain ⟨hl,h1⟩:=hready
   unfold readyAt at h1
   rw [Bool.and_eq_true,lof_get hl] at h1
   obtain ⟨h2,h3⟩:=h1
   have hO:O.contains i=true:=by
    cases h:O.contains i with
    | true=>rfl
    | false=>rw [h] at h2;simp at h2
   rw [hO] at h2
   have hb:b i=false:=by simpa using h2
   have hneed:∀ r,(rtab md ops).2[i]?=some r→∀ n ∈ r.1,n<(rtab md ops).2.length→O.contains n=true→b n=true:=by
    intro r hr n hn hnl hOn
    rw [hr] at h3
    simp only [List.all_eq_true] at h3
    have h5:=h3 n hn
    rw [lof_get hnl,hOn] at h5
    simpa using h5
   have hon:∀ j,(O.contains j && (B.getD i 0).testBit j)=true→b j=true:=by
    intro j hj
    rw [Bool.and_eq_true] at hj
    have hr2:(rtab md ops).2[i]?=some (rtab md ops).2[i]:=List.getElem?_eq_getElem hl
    have h1:=List.all_eq_true.1 hw i (List.mem_range.2 hl)
    rw [hr2] at h1
    simp only [beq_iff_eq] at h1
    have h2:(upM B i (rtab md ops).2[i].1).testBit j=true:=by rw [← h1,Nat.testBit_or,hj.2,Bool.true_or]
    obtain ⟨n,hn,h3⟩:=upM_bit h2
    have hni:=(baseOk_row hk hr2).2 n hn
    rcases h3 with rfl|⟨h4,h5⟩
    ·exact hneed _ hr2 n hn (by omega) hj.1
    ·cases hO2:O.contains n with
     | true=>exact closed_bits hw hk hc n n (Nat.le_refl _) (by omega) hO2 (hneed _ hr2 n hn (by omega) hO2) j hj.1 h5
     | false=>
      have:=bits_out hw hk n n (Nat.le_refl _) (by omega) hO2 j h5
      rw [hj.1] at this
      cases this
   have hoff:∀ d,(O.contains d && (B.getD d 0).testBit i)=true→b d=false:=by
    intro d hd
    rw [Bool.and_eq_true] at hd
    cases hbd:b d with
    | false=>rfl
    | true=>
     have hdl:=baseOk_lt hk (List.contains_iff_mem.1 hd.1)
     have:=closed_bits hw hk hc d d (Nat.le_refl _) hdl hd.1 hbd i hO hd.2
     rw [hb] at this
     cases this
   have hit:i<t:=by
    refine Nat.lt_of_not_le (fun hti=>?_)
    have h4:=List.all_eq_true.1 ht i (List.contains_iff_mem.1 hO)
    rw [decide_eq_false (by omega),Bool.false_or] at h4
    cases hf:(O.filter fun j=>decide (j<t)).filter (fun j=>!b j) with
    | nil=>rw [hf] at hm;simp at hm
    | cons x r=>
     have hx:x ∈ (O.filter fun j=>decide (j<t)).filter (fun j=>!b j):=by rw [hf];exact List.mem_cons_self
     rw [List.mem_filter,List.mem_filter] at hx
     have h5:=List.all_eq_true.1 h4 x hx.1.1
     rw [hx.1.2,Bool.not_true,Bool.false_or] at h5
     have:=hon x (by rw [List.contains_iff_mem.2 hx.1.1,h5];rfl)
     rw [this] at hx
     simp at hx
   obtain ⟨oi,hoi,hK⟩:=hs i (List.contains_iff_mem.1 hO) hit b a w hI hb hon hoff
   refine wpOp_step hoi (fun K' hK'=>hK K' (fun a' w' hI'=>hK' a' w' ⟨fun _ _=>hS _ _ _ hI',?_⟩))
   have hset:(lof (rtab md ops).2.length O b).toArray.setIfInBounds i true=(lof (rtab md ops).2.length O (up b i)).toArray:=by
    apply Array.ext'
    rw [Array.toList_setIfInBounds]
    exact lof_up hO
   rw [hset]
   refine ih (up b i) a' w' ?_ ?_ ?_ hI'
   ·have:=up_count (b:=b) (O:=O.filter fun j=>decide (j<t)) ((baseOk_nodup hk).sublist List.filter_sublist) (List.mem_filter.2 ⟨List.contains_iff_mem.1 hO,decide_eq_true hit⟩) hb
    omega
   ·intro j hj
    rw [up_ne (by omega)]
    exact hbt j hj
   ·intro d r hr hOd hbd n hn hOn
    by_cases hni:n=i
    ·rw [hni,up_self]
    ·rw [up_ne hni]
     by_cases hdi:d=i
     ·subst hdi
      exact hneed r hr n hn (by have:=(baseOk_row hk hr).2 n hn;omega) hOn
     ·rw [up_ne hdi] at hbd
      exact hc d r hr hOd hbd n hn hOn
theorem stepsT_cons {I:(Nat→Bool)→Act→World→Prop} {t i:Nat} {rs:List Nat} (h:StepAt P ops Q B O I i) (hs:∀ j ∈ rs,j<t→StepAt P ops Q B O I j):∀ j ∈ i :: rs,j<t→StepAt P ops Q B O I j:=fun j hj hjt=>by
 rcases List.mem_cons.1 hj with rfl|hj
 ·exact h
 ·exact hs j hj hjt
theorem stepsT_tail {I:(Nat→Bool)→Act→World→Prop} {t:Nat} {rs:List Nat} (h:(rs.all fun j=>decide (t≤j))=true):∀ j ∈ rs,j<t→StepAt P ops Q B O I j:=fun j hj hjt=>by
 have:=List.all_eq_true.1 h j hj
 rw [decide_eq_true_eq] at this
 omega
theorem inv_part {l:Array Bool} {fuel:Nat} {a:Act} {w:World} (t m0:Nat) (O:List Nat) (l':Array Bool) (I:Act→(Nat→Bool)→Act→World→Prop) (hT:rtab md ops=T) (hw:waitsOk T.2 B=true) (hk:(baseOk T.2 O && tailOk B O t)=true)
  (hl:(lof T.2.length O (fun _=>false) == l.toList && O.length == fuel && lof T.2.length O (fun j=>decide (j<t)) == l'.toList && (O.filter fun j=>!decide (j<t)).length == m0)=true) (hS:∀ b a' w,I a b a' w→S w) (h0:I a (fun _=>false) a w) (hs:∀ i ∈ O,i<t→StepAt P ops Q B O (I a) i)
  (hend:∀ b a' w,(∀ j,O.contains j=true→b j=decide (j<t))→I a b a' w→wpAnyLast P md ops Q S ds m0 l' a' w):wpAnyLast P md ops Q S ds fuel l a w:=by
 rw [Bool.and_eq_true] at hk
 rw [Bool.and_eq_true,Bool.and_eq_true,Bool.and_eq_true,beq_iff_eq,beq_iff_eq,beq_iff_eq,beq_iff_eq] at hl
 obtain ⟨hl,hm⟩:=hl
 subst hm
 have e1:(lof T.2.length O (fun _=>false)).toArray=l:=by apply Array.ext';exact hl.1.1
 have e2:(lof T.2.length O (fun j=>decide (j<t))).toArray=l':=by apply Array.ext';exact hl.2
 have h1:=inv_cut t _ hT hw hk.1 hk.2 (I a) hS hs (fun b a' w h hi=>by rw [e2];exact hend b a' w h hi) _ (fun _=>false) a w rfl (fun _ _=>rfl) (fun d r _ _ hb=>by cases hb) h0
 rw [e1] at h1
 have e3:((O.filter fun j=>decide (j<t)).filter fun j=>!(fun _=>false) j).length+(O.filter fun j=>!decide (j<t)).length=fuel:=by
  rw [← hl.1.2]
  have hft:∀ L:List Nat,L.filter (fun j=>!(fun _=>false) j)=L:=fun L=>List.filter_eq_self.2 (by simp)
  rw [hft]
  have hadd:∀ L:List Nat,(L.filter fun j=>decide (j<t)).length+(L.filter fun j=>!decide (j<t)).length=L.length:=fun L=>by
   induction L with
   | nil=>rfl
   | cons x L ih=>by_cases hx:x<t <;> simp [hx] at ih ⊢ <;> omega
  exact hadd O
 rw [e3] at h1
 exact h1
end
end Go.Proofs.YtlhniagacegbeaaDoorW.PrintLast
