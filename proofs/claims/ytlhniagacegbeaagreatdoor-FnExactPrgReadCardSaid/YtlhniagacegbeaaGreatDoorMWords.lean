/- Words of a text, and what is ahead of and behind a part. Plain mathematics. Conditions: none. -/
import Derived.Lib.Split
import Derived.Lib.SplitLaws
import Derived.Lib.CountLaws
import Derived.Lib.CutLaws
namespace Go.Proofs.YtlhniagacegbeaaGreatDoor.Cat
set_option linter.unusedVariables false
set_option linter.unusedSimpArgs false
open Go.Lib
/-- a text ahead of the first place of a part, and behind it -/
def cutS (sep:List UInt8):List UInt8→Option (List UInt8 × List UInt8)
 | []=>none
 | b :: l=>if sep.isPrefixOf (b :: l)=true then some ([],(b :: l).drop sep.length) else (cutS sep l).map fun q=>(b :: q.1,q.2)
theorem cutS_app {sep:List UInt8}:∀ {l a b:List UInt8},cutS sep l=some (a,b)→l=a++sep++b
 | [],a,b,h=>by cases h
 | x :: l,a,b,h=>by
  rw [cutS] at h
  by_cases hp:sep.isPrefixOf (x :: l)=true
  ·rw [if_pos hp] at h
   injection h with h
   injection h with h1 h2
   subst h1 h2
   obtain ⟨t,ht⟩:=List.isPrefixOf_iff_prefix.1 hp
   rw [← ht];simp
  ·rw [if_neg hp] at h
   obtain ⟨q,hq,e⟩:=Option.map_eq_some_iff.1 h
   obtain ⟨q1,q2⟩:=q
   injection e with e1 e2
   subst e1 e2
   rw [cutS_app hq];simp
theorem cutS_len {sep l a b:List UInt8} (h:cutS sep l=some (a,b)):l.length=a.length+sep.length+b.length:=by
 rw [cutS_app h];simp;omega
theorem index_cutS {sep:List UInt8} (hs:sep≠[]):∀ (l:List UInt8),(cutS sep l=none∧index l sep = -1)∨∃ a b,cutS sep l=some (a,b)∧index l sep=(a.length:Int)
 | []=>.inl ⟨rfl,by
  cases sep with
  | nil=>exact absurd rfl hs
  | cons x y=>rfl⟩
 | x :: l=>by
  rw [cutS,index]
  by_cases hp:sep.isPrefixOf (x :: l)=true
  ·rw [if_pos hp,if_pos hp]
   exact .inr ⟨_,_,rfl,rfl⟩
  ·rw [if_neg hp,if_neg hp]
   rcases index_cutS hs l with ⟨h1,h2⟩|⟨a,b,h1,h2⟩
   ·rw [h1,h2];exact .inl ⟨rfl,rfl⟩
   ·rw [h1,h2]
    refine .inr ⟨x :: a,b,rfl,?_⟩
    have:((a.length:Int) == -1)=false:=by rw [beq_eq_false_iff_ne];omega
    rw [this]
    simp
/-- the pieces between parts, at most so many cuts -/
def splitF (sep:List UInt8):Nat→List UInt8→List (List UInt8)
 | 0,l=>[l]
 | k+1,l=>match cutS sep l with
  | none=>[l]
  | some q=>q.1 :: splitF sep k q.2
def pieces (sep l:List UInt8):List (List UInt8):=splitF sep l.length l
theorem splitF_more {sep:List UInt8} (hs:sep≠[]):∀ (k:Nat) (l:List UInt8),l.length≤k→splitF sep k l=pieces sep l:=by
 intro k
 induction k using Nat.strongRecOn with
 | _ k ih=>
  intro l hl
  have h0:∀ (j:Nat) (m:List UInt8),cutS sep m=none→splitF sep j m=[m]:=fun j m h=>by
   cases j with
   | zero=>rfl
   | succ j=>rw [splitF,h]
  unfold pieces
  cases hc:cutS sep l with
  | none=>rw [h0 _ _ hc,h0 _ _ hc]
  | some q=>
   obtain ⟨a,b⟩:=q
   have hlen:=cutS_len hc
   have hsp:0<sep.length:=List.length_pos_iff.2 hs
   obtain ⟨j,rfl⟩:∃ m,k=m+1:=⟨k - 1,by omega⟩
   obtain ⟨i,hi⟩:∃ m,l.length=m+1:=⟨l.length - 1,by omega⟩
   rw [hi,splitF,splitF,hc]
   simp only
   rw [ih j (by omega) b (by omega)]
   by_cases hij:i<j+1
   ·rw [ih i hij b (by omega)]
   ·have:i=j:=by omega
    subst this
    rw [ih i (by omega) b (by omega)]
theorem pieces_none {sep l:List UInt8} (h:cutS sep l=none):pieces sep l=[l]:=by
 unfold pieces
 cases l with
 | nil=>rfl
 | cons x l=>rw [List.length_cons,splitF,h]
theorem pieces_some {sep l a b:List UInt8} (hs:sep≠[]) (h:cutS sep l=some (a,b)):pieces sep l=a :: pieces sep b:=by
 have hlen:=cutS_len h
 have hsp:0<sep.length:=List.length_pos_iff.2 hs
 obtain ⟨i,hi⟩:∃ m,l.length=m+1:=⟨l.length - 1,by omega⟩
 unfold pieces
 rw [hi,splitF,h]
 simp only
 rw [splitF_more hs i b (by omega)]
 rfl
theorem pieces_ne (sep l:List UInt8):pieces sep l≠[]:=by
 unfold pieces
 cases l.length with
 | zero=>simp [splitF]
 | succ k=>
  rw [splitF]
  split <;> simp
theorem pieces_len {sep:List UInt8} (hs:sep≠[]):∀ (k:Nat) (l:List UInt8),l.length≤k→(pieces sep l).length≤k+1:=by
 intro k
 induction k with
 | zero=>
  intro l hl
  have:l=[]:=List.eq_nil_of_length_eq_zero (by omega)
  subst this
  rw [pieces_none rfl];simp
 | succ k ih=>
  intro l hl
  cases hc:cutS sep l with
  | none=>rw [pieces_none hc];simp
  | some q=>
   obtain ⟨a,b⟩:=q
   have hlen:=cutS_len hc
   have hsp:0<sep.length:=List.length_pos_iff.2 hs
   rw [pieces_some hs hc]
   have:=ih b (by omega)
   simp;omega
/-- pieces with the parts between -/
def joinS (sep:List UInt8):List (List UInt8)→List UInt8
 | []=>[]
 | [w]=>w
 | w :: v :: ws=>w++sep++joinS sep (v :: ws)
theorem joinS_cons {sep:List UInt8} {w:List UInt8} {ws:List (List UInt8)} (h:ws≠[]):joinS sep (w :: ws)=w++sep++joinS sep ws:=by
 cases ws with
 | nil=>exact absurd rfl h
 | cons v ws=>rfl
theorem joinS_pieces {sep:List UInt8} (hs:sep≠[]):∀ (k:Nat) (l:List UInt8),l.length≤k→joinS sep (pieces sep l)=l:=by
 intro k
 induction k with
 | zero=>
  intro l hl
  have:l=[]:=List.eq_nil_of_length_eq_zero (by omega)
  subst this
  rw [pieces_none rfl];rfl
 | succ k ih=>
  intro l hl
  cases hc:cutS sep l with
  | none=>rw [pieces_none hc];rfl
  | some q=>
   obtain ⟨a,b⟩:=q
   have hlen:=cutS_len hc
   have hsp:0<sep.length:=List.length_pos_iff.2 hs
   rw [pieces_some hs hc,joinS_cons (pieces_ne _ _),ih b (by omega)]
   exact (cutS_app hc).symm
/-! ### words -/
theorem cut_sp:∀ (a l:List UInt8),32 ∉ a→cutS [32] (a++32 :: l)=some (a,l)
 | [],l,_=>by
  rw [List.nil_append,cutS,if_pos (by simp [List.isPrefixOf])]
  rfl
 | x :: a,l,h=>by
  have hx:x≠32:=fun e=>h (by simp [e])
  rw [List.cons_append,cutS,if_neg (by simp [List.isPrefixOf];exact fun e=>hx e.symm),cut_sp a l (fun q=>h (by simp [q]))]
  rfl
theorem cut_nosp:∀ (a:List UInt8),32 ∉ a→cutS [32] a=none
 | [],_=>rfl
 | x :: a,h=>by
  have hx:x≠32:=fun e=>h (by simp [e])
  rw [cutS,if_neg (by simp [List.isPrefixOf];exact fun e=>hx e.symm),cut_nosp a (fun q=>h (by simp [q]))]
  rfl
def words (l:List UInt8):List (List UInt8):=pieces [32] l
theorem words_one {a:List UInt8} (h:32 ∉ a):words a=[a]:=pieces_none (cut_nosp a h)
theorem words_cons {a l:List UInt8} (h:32 ∉ a):words (a++32 :: l)=a :: words l:=pieces_some (by simp) (cut_sp a l h)
theorem words_join:∀ (ws:List (List UInt8)),ws≠[]→(∀ w ∈ ws,32 ∉ w)→words (joinS [32] ws)=ws
 | [],h,_=>absurd rfl h
 | [w],_,h=>words_one (h w (by simp))
 | w :: v :: ws,_,h=>by
  rw [joinS,List.append_assoc]
  rw [show ([32]:List UInt8)++joinS [32] (v :: ws)=32 :: joinS [32] (v :: ws) from rfl,words_cons (h w (by simp)),words_join (v :: ws) (by simp) (fun x hx=>h x (by simp at hx ⊢;exact .inr hx))]
theorem join_words (l:List UInt8):joinS [32] (words l)=l:=joinS_pieces (by simp) l.length l (Nat.le_refl _)
/-- a text's words, byte by byte -/
def wordsOn:List UInt8→List UInt8→List (List UInt8)
 | w,[]=>[w]
 | w,b :: l=>if b=32 then w :: wordsOn [] l else wordsOn (w++[b]) l
theorem wordsOn_is:∀ (l w:List UInt8),32 ∉ w→wordsOn w l=words (w++l)
 | [],w,h=>by rw [wordsOn,List.append_nil,words_one h]
 | b :: l,w,h=>by
  rw [wordsOn]
  by_cases hb:b=32
  ·rw [if_pos hb,hb,words_cons h,wordsOn_is l [] (by simp)];rfl
  ·rw [if_neg hb,wordsOn_is l (w++[b]) (by simp;exact ⟨h,fun e=>hb e.symm⟩)];simp
theorem wordsOn_nil (l:List UInt8):wordsOn [] l=words l:=wordsOn_is l [] (by simp)
/-! ### the library's own ways -/
theorem split_pieces {sep:List UInt8} (hs:sep≠[]):∀ (k:Nat) (l:List UInt8),l.length≤k→split l sep=pieces sep l:=by
 intro k
 induction k with
 | zero=>
  intro l hl
  have:l=[]:=List.eq_nil_of_length_eq_zero (by omega)
  subst this
  rcases index_cutS hs [] with ⟨h1,h2⟩|⟨a,b,h1,h2⟩
  ·unfold split
   rw [count_miss h2,pieces_none h1];rfl
  ·cases h1
 | succ k ih=>
  intro l hl
  rcases index_cutS hs l with ⟨h1,h2⟩|⟨a,b,h1,h2⟩
  ·unfold split
   rw [count_miss h2,pieces_none h1];rfl
  ·have hlen:=cutS_len h1
   have hsp:0<sep.length:=List.length_pos_iff.2 hs
   have e:=cutS_app h1
   have hd:l.drop (a.length+sep.length)=b:=by rw [e,← List.length_append,List.drop_left]
   have ht:l.take a.length=a:=by rw [e,List.append_assoc,List.take_left]
   have hb:((a.length:Int) == -1)=false:=by rw [beq_eq_false_iff_ne];omega
   unfold split
   rw [count_hit hs h2,hd,Nat.add_comm,splitK,h2,hb,pieces_some hs h1]
   simp only [Int.toNat_natCast,Nat.add_zero,ht,hd]
   rw [if_neg (by simp)]
   congr 1
   exact ih b (by omega)
theorem splitB_pieces (sep s:ByteArray) (h:1≤sep.size):(splitB sep 0 (countB s sep) s).map (·.data.toList)=pieces sep.data.toList s.data.toList:=by
 rw [splitB_data]
 exact split_pieces (by rw [← List.length_pos_iff,← size_eq];omega) _ _ (Nat.le_refl _)
theorem cut_cutS {sep:List UInt8} (hs:sep≠[]) (l:List UInt8):Lib.cut l sep=match cutS sep l with|none=>(l,[],false)|some q=>(q.1,q.2,true):=by
 rcases index_cutS hs l with ⟨h1,h2⟩|⟨a,b,h1,h2⟩
 ·rw [h1]
  unfold Lib.cut
  rw [h2]
  rfl
 ·have e:=cutS_app h1
  have hd:l.drop (a.length+sep.length)=b:=by rw [e,← List.length_append,List.drop_left]
  have ht:l.take a.length=a:=by rw [e,List.append_assoc,List.take_left]
  have hb:((a.length:Int) == -1)=false:=by rw [beq_eq_false_iff_ne];omega
  rw [h1]
  unfold Lib.cut
  rw [h2]
  simp [hb,ht,hd]
theorem joinS_len {sep:List UInt8}:∀ {ws:List (List UInt8)} {x:List UInt8},x ∈ ws→x.length≤(joinS sep ws).length
 | [],x,h=>by cases h
 | [w],x,h=>by
  rw [List.mem_singleton] at h
  rw [h];exact Nat.le_refl _
 | w :: v :: ws,x,h=>by
  rw [joinS]
  simp only [List.length_append]
  rcases List.mem_cons.1 h with h|h
  ·rw [h];omega
  ·have:=joinS_len (sep:=sep) h
   omega
theorem words_len {l x:List UInt8} (h:x ∈ words l):x.length≤l.length:=by
 have:=joinS_len (sep:=[32]) h
 rwa [join_words] at this
end Go.Proofs.YtlhniagacegbeaaGreatDoor.Cat
